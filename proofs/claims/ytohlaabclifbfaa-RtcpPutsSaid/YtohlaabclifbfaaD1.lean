/-
  The reader of a body: what it takes off, and its small functions' walks.
-/
import Derived.Test.YtohlaabclifbfaaC3
namespace Go.Proofs.Ytohlaabclifbfaa.X
open Go Go.RowKit
set_option linter.unusedVariables false
set_option linter.unusedSimpArgs false
structure Rd where
  l : List Int
  k : Nat
  bad : Bool
/-- So many bytes are taken off. -/
def Rd.take (r : Rd) (n : Nat) : List Int × Rd := if r.bad = true ∨ r.l.length < n then (List.replicate n 0, ⟨r.l, r.k, true⟩) else (r.l.take n, ⟨r.l.drop n, r.k + n, false⟩)
def rdC (p : Option Addr) (c : Nat) (r : Rd) : List Value := [.slice p r.l.length c, .int .i64 r.k, .bool r.bad]
structure Rd.Ok (r : Rd) (K : Nat) : Prop where
  by' : ∀ x, x ∈ r.l → By x
  sz : r.k + r.l.length ≤ K
theorem Rd.take_len (r : Rd) (n : Nat) : (r.take n).1.length = n := by
  unfold Rd.take
  split
  · simp
  · rw [List.length_take]; omega
theorem Rd.take_by {r : Rd} {K : Nat} (h : r.Ok K) (n : Nat) : (∀ x, x ∈ (r.take n).1 → By x) ∧ (r.take n).2.Ok K := by
  unfold Rd.take
  split
  · exact ⟨fun x hx => by rw [(List.mem_replicate.1 hx).2]; exact ⟨by decide, by decide⟩, h.by', h.sz⟩
  · refine ⟨fun x hx => h.by' x (List.mem_of_mem_take hx), fun x hx => h.by' x (List.mem_of_mem_drop hx), ?_⟩
    have := h.sz
    dsimp only
    rw [List.length_drop]; omega
theorem Rd.take_bad {r : Rd} {n : Nat} (h : r.bad = true ∨ r.l.length < n) : r.take n = (List.replicate n 0, ⟨r.l, r.k, true⟩) := by unfold Rd.take; rw [if_pos h]
theorem Rd.take_ok {r : Rd} {n : Nat} (h : ¬ (r.bad = true ∨ r.l.length < n)) : r.take n = (r.l.take n, ⟨r.l.drop n, r.k + n, false⟩) := by unfold Rd.take; rw [if_neg h]
/-- The reader, behind what was read. -/
def RdN (W : World) (L : List Blk) (b : Nat) (p : Option Addr) (r r' : Rd) (L' : List Blk) : Prop :=
  ∃ p' c', (∀ L0, Rs W L0 p (ints .u8 r.l) → Rs W L0 p' (ints .u8 r'.l)) ∧ r'.l.length ≤ c' ∧ L' = (b, .cells (rdC p' c' r').toArray 116 (0, 0)) :: L
set_option maxHeartbeats 4000000 in
theorem xf_bts {W : World} {L : List Blk} (b : Nat) (p : Option Addr) (c : Nat) (r : Rd) (n : Nat) (hr : Rs W L p (ints .u8 r.l)) (hc : r.l.length ≤ c) (hk : r.k + r.l.length ≤ 1000000000) (hn : n ≤ 1000000) :
    XF Try.prog W 75 #[.pointer (some ⟨b, 0, none⟩), .int .i64 n] ((b, .cells (rdC p c r).toArray 116 (0, 0)) :: L) (fun v L' => ∃ q k l, v = .slice q n k ∧ n ≤ k ∧ Rs W (l ++ L) q (ints .u8 (r.take n).1) ∧ RdN W (l ++ L) b p r (r.take n).2 L') := by
  refine xf_enter (args := [_, _]) Try.func75 rfl Try.ntmps75 rfl ?_
  obtain ⟨xs, at', bad⟩ := r
  dsimp only at hr hc hk
  unfold rdC
  by_cases hbad : bad = true ∨ xs.length < n
  · rw [Rd.take_bad hbad]
    dsimp only
    have hfin : ∀ r22 : Nat, Rs W ([(r22, Obj.cells (List.replicate n (.int .u8 0)).toArray 5 (0, 0))] ++ L) (some ⟨r22, 0, none⟩) (ints .u8 (List.replicate n 0)) := fun r22 => by
      rw [ints_rep]; exact Rs.fresh (List.Mem.head _)
    cases bad with
    | true =>
      focus
        refine xc_seq ?_
        refine xc_region ?_
        refine xo_rd (rd_assign rfl) rfl ?_
        refine xo_nil ?_
        refine xq_seq ?_
        refine xc_seq ?_
        refine xc_seq ?_
        refine xc_region ?_
        refine xo_rd (rd_move rfl) rfl ?_
        refine xo_rd (rd_nilCheck rfl) rfl ?_
        refine xo_rd (rd_fieldAddr rfl) rfl ?_
        refine xo_rd (rd_load1 rfl (Cl.o0 rfl)) rfl ?_
        refine xo_rd (rd_move rfl) rfl ?_
        refine xo_gskip rfl rfl rfl rfl ?_
        refine xo_gskip rfl rfl rfl rfl ?_
        refine xo_gskip rfl rfl rfl rfl ?_
        refine xo_gskip rfl rfl rfl rfl ?_
        refine xo_gskip rfl rfl rfl rfl ?_
        refine xo_gskip rfl rfl rfl rfl ?_
        refine xo_gskip rfl rfl rfl rfl ?_
        refine xo_rd (rd_pickt rfl rfl) rfl ?_
        refine xo_nil ?_
        refine xq_seq ?_
        refine xc_condt rfl ?_
        refine xc_seq ?_
        refine xc_region ?_
        refine xo_rd (rd_move rfl) rfl ?_
        refine xo_rd (rd_nilCheck rfl) rfl ?_
        refine xo_rd (rd_fieldAddr rfl) rfl ?_
        refine xo_ef rfl (ef_store1 [] _ rfl rfl (by first | rfl | assumption) rfl rfl rfl ?_)
        refine xo_nil ?_
        refine xq_seq ?_
        refine xc_seq ?_
        refine xc_region ?_
        refine xo_rd (rd_move rfl) rfl ?_
        refine xo_ef rfl (ef_makeSlice rfl rfl rfl (by omega) (by omega) (by omega) (by decide) fun r23 => ?_)
        refine xo_rd (rd_assign rfl) rfl ?_
        refine xo_nil ?_
        refine xq_seq ?_
        refine xc_ret ?_
        refine xq_then_ret ?_
      refine xq_perm (List.Perm.swap _ _ _) ?_
      exact xq_ret1 (.inl rfl) Try.results75 rfl ⟨_, _, _, rfl, Nat.le_refl _, hfin _, p, c, (fun _ h => h), hc, rfl⟩
    | false =>
      have hlt : xs.length < n := by simpa using hbad
      focus
        refine xc_seq ?_
        refine xc_region ?_
        refine xo_rd (rd_assign rfl) rfl ?_
        refine xo_nil ?_
        refine xq_seq ?_
        refine xc_seq ?_
        refine xc_seq ?_
        refine xc_region ?_
        refine xo_rd (rd_move rfl) rfl ?_
        refine xo_rd (rd_nilCheck rfl) rfl ?_
        refine xo_rd (rd_fieldAddr rfl) rfl ?_
        refine xo_rd (rd_load1 rfl (Cl.o0 rfl)) rfl ?_
        refine xo_rd (rd_move rfl) rfl ?_
        refine xo_grd rfl rfl (rd_move rfl) rfl ?_
        refine xo_grd rfl rfl (rd_nilCheck rfl) rfl ?_
        refine xo_grd rfl rfl (rd_fieldAddr rfl) rfl ?_
        refine xo_grd rfl rfl (rd_load1 rfl (Cl.o0 rfl)) rfl ?_
        refine xo_grd rfl rfl (rd_len rfl) rfl ?_
        refine xo_grd rfl rfl (rd_move rfl) rfl ?_
        refine xo_grd rfl rfl (rd_lss rfl rfl) rfl ?_
        refine xo_rd (rd_pickf rfl rfl) rfl ?_
        refine xo_nil ?_
        refine xq_seq ?_
        refine xc_dec rfl (fun h1 => ?_) (fun h1 => (by exfalso; omega))
        refine xc_seq ?_
        refine xc_region ?_
        refine xo_rd (rd_move rfl) rfl ?_
        refine xo_rd (rd_nilCheck rfl) rfl ?_
        refine xo_rd (rd_fieldAddr rfl) rfl ?_
        refine xo_ef rfl (ef_store1 [] _ rfl rfl (by first | rfl | assumption) rfl rfl rfl ?_)
        refine xo_nil ?_
        refine xq_seq ?_
        refine xc_seq ?_
        refine xc_region ?_
        refine xo_rd (rd_move rfl) rfl ?_
        refine xo_ef rfl (ef_makeSlice rfl rfl rfl (by omega) (by omega) (by omega) (by decide) fun r23 => ?_)
        refine xo_rd (rd_assign rfl) rfl ?_
        refine xo_nil ?_
        refine xq_seq ?_
        refine xc_ret ?_
        refine xq_then_ret ?_
      refine xq_perm (List.Perm.swap _ _ _) ?_
      exact xq_ret1 (.inl rfl) Try.results75 rfl ⟨_, _, _, rfl, Nat.le_refl _, hfin _, p, c, (fun _ h => h), hc, rfl⟩
  · rw [Rd.take_ok hbad]
    dsimp only
    obtain ⟨rfl, hle⟩ : bad = false ∧ n ≤ xs.length := by
      cases bad
      · exact ⟨rfl, by simpa using hbad⟩
      · exact absurd (.inl rfl) hbad
    focus
      refine xc_seq ?_
      refine xc_region ?_
      refine xo_rd (rd_assign rfl) rfl ?_
      refine xo_nil ?_
      refine xq_seq ?_
      refine xc_seq ?_
      refine xc_seq ?_
      refine xc_region ?_
      refine xo_rd (rd_move rfl) rfl ?_
      refine xo_rd (rd_nilCheck rfl) rfl ?_
      refine xo_rd (rd_fieldAddr rfl) rfl ?_
      refine xo_rd (rd_load1 rfl (Cl.o0 rfl)) rfl ?_
      refine xo_rd (rd_move rfl) rfl ?_
      refine xo_grd rfl rfl (rd_move rfl) rfl ?_
      refine xo_grd rfl rfl (rd_nilCheck rfl) rfl ?_
      refine xo_grd rfl rfl (rd_fieldAddr rfl) rfl ?_
      refine xo_grd rfl rfl (rd_load1 rfl (Cl.o0 rfl)) rfl ?_
      refine xo_grd rfl rfl (rd_len rfl) rfl ?_
      refine xo_grd rfl rfl (rd_move rfl) rfl ?_
      refine xo_grd rfl rfl (rd_lss rfl rfl) rfl ?_
      refine xo_rd (rd_pickf rfl rfl) rfl ?_
      refine xo_nil ?_
      refine xq_seq ?_
      refine xc_dec rfl (fun h1 => (by exfalso; omega)) (fun h1 => ?_)
      refine xc_skip ?_
      refine xq_seq ?_
      refine xc_seq ?_
      refine xc_region ?_
      refine xo_rd (rd_move rfl) rfl ?_
      refine xo_rd (rd_nilCheck rfl) rfl ?_
      refine xo_rd (rd_fieldAddr rfl) rfl ?_
      refine xo_rd (rd_load1 rfl (Cl.o0 rfl)) rfl ?_
      refine xo_rd (rd_move rfl) rfl ?_
      refine xo_rd (rd_slHi rfl rfl (by omega) (by omega)) rfl ?_
      refine xo_rd (rd_assign rfl) rfl ?_
      refine xo_nil ?_
      refine xq_seq ?_
      refine xc_seq ?_
      refine xc_drawM [0, 0, 0, 4, 8, 16, 0, 96, 0, 256, 512, 1024, 0, 6144, 2301, 18685, 35069, 131071, 262143, 393215] [0, 0, 0, 4, 8, 16, 0, 96, 0, 256, 512, 1024, 0, 6144, 2301, 18685, 35069, 131071, 262143, 393215] [] (by kernel_rfl) (by kernel_rfl) (by kernel_rfl) ?_
      refine xm_take 0 (m' := 1) rfl (by kernel_rfl) (by first | exact Sb.refl | exact Sb.nil | (repeat (first | exact Sb.nil | exact Sb.refl | exact Sb.app0 | apply Sb.keep | apply Sb.keepApp | apply Sb.cons | apply Sb.app))) (rd_move rfl) rfl (by kernel_rfl) ?_
      refine xm_take 1 (m' := 3) rfl (by kernel_rfl) (by first | exact Sb.refl | exact Sb.nil | (repeat (first | exact Sb.nil | exact Sb.refl | exact Sb.app0 | apply Sb.keep | apply Sb.keepApp | apply Sb.cons | apply Sb.app))) (rd_move rfl) rfl (by kernel_rfl) ?_
      refine xm_take 2 (m' := 7) rfl (by kernel_rfl) (by first | exact Sb.refl | exact Sb.nil | (repeat (first | exact Sb.nil | exact Sb.refl | exact Sb.app0 | apply Sb.keep | apply Sb.keepApp | apply Sb.cons | apply Sb.app))) (rd_move rfl) rfl (by kernel_rfl) ?_
      refine xm_take 3 (m' := 15) rfl (by kernel_rfl) (by first | exact Sb.refl | exact Sb.nil | (repeat (first | exact Sb.nil | exact Sb.refl | exact Sb.app0 | apply Sb.keep | apply Sb.keepApp | apply Sb.cons | apply Sb.app))) (rd_nilCheck rfl) rfl (by kernel_rfl) ?_
      refine xm_take 4 (m' := 31) rfl (by kernel_rfl) (by first | exact Sb.refl | exact Sb.nil | (repeat (first | exact Sb.nil | exact Sb.refl | exact Sb.app0 | apply Sb.keep | apply Sb.keepApp | apply Sb.cons | apply Sb.app))) (rd_fieldAddr rfl) rfl (by kernel_rfl) ?_
      refine xm_take 6 (m' := 95) rfl (by kernel_rfl) (by first | exact Sb.refl | exact Sb.nil | (repeat (first | exact Sb.nil | exact Sb.refl | exact Sb.app0 | apply Sb.keep | apply Sb.keepApp | apply Sb.cons | apply Sb.app))) (rd_move rfl) rfl (by kernel_rfl) ?_
      refine xm_take 8 (m' := 351) rfl (by kernel_rfl) (by first | exact Sb.refl | exact Sb.nil | (repeat (first | exact Sb.nil | exact Sb.refl | exact Sb.app0 | apply Sb.keep | apply Sb.keepApp | apply Sb.cons | apply Sb.app))) (rd_move rfl) rfl (by kernel_rfl) ?_
      refine xm_take 9 (m' := 863) rfl (by kernel_rfl) (by first | exact Sb.refl | exact Sb.nil | (repeat (first | exact Sb.nil | exact Sb.refl | exact Sb.app0 | apply Sb.keep | apply Sb.keepApp | apply Sb.cons | apply Sb.app))) (rd_nilCheck rfl) rfl (by kernel_rfl) ?_
      refine xm_take 10 (m' := 1887) rfl (by kernel_rfl) (by first | exact Sb.refl | exact Sb.nil | (repeat (first | exact Sb.nil | exact Sb.refl | exact Sb.app0 | apply Sb.keep | apply Sb.keepApp | apply Sb.cons | apply Sb.app))) (rd_fieldAddr rfl) rfl (by kernel_rfl) ?_
      refine xm_take 12 (m' := 5983) rfl (by kernel_rfl) (by first | exact Sb.refl | exact Sb.nil | (repeat (first | exact Sb.nil | exact Sb.refl | exact Sb.app0 | apply Sb.keep | apply Sb.keepApp | apply Sb.cons | apply Sb.app))) (rd_move rfl) rfl (by kernel_rfl) ?_
      refine xm_two 5 11 (mi := 6015) (mk := 8031) rfl rfl (by kernel_rfl) rfl rfl (by kernel_rfl) (by kernel_rfl) (ef_rd (rd_load1 rfl (Cl.o0 rfl)) ⟨(by first | exact Sb.refl | exact Sb.nil | (repeat (first | exact Sb.nil | exact Sb.refl | exact Sb.app0 | apply Sb.keep | apply Sb.keepApp | apply Sb.cons | apply Sb.app))), ?_⟩) (ef_rd (rd_load1 rfl (Cl.o0 rfl)) ⟨(by first | exact Sb.refl | exact Sb.nil | (repeat (first | exact Sb.nil | exact Sb.refl | exact Sb.app0 | apply Sb.keep | apply Sb.keepApp | apply Sb.cons | apply Sb.app))), ?_⟩)
      refine xm_take 7 (m' := 6143) rfl (by kernel_rfl) (by first | exact Sb.refl | exact Sb.nil | (repeat (first | exact Sb.nil | exact Sb.refl | exact Sb.app0 | apply Sb.keep | apply Sb.keepApp | apply Sb.cons | apply Sb.app))) (rd_slLo rfl rfl (by omega) (by omega)) rfl (by kernel_rfl) ?_
      refine xm_one 11 (m' := 8191) rfl (by kernel_rfl) rfl (by kernel_rfl) (ef_rd (rd_load1 rfl (Cl.o0 rfl)) ?_)
      refine ⟨(by first | exact Sb.refl | exact Sb.nil | (repeat (first | exact Sb.nil | exact Sb.refl | exact Sb.app0 | apply Sb.keep | apply Sb.keepApp | apply Sb.cons | apply Sb.app))), ?_⟩
      refine xm_take 13 (m' := 16383) rfl (by kernel_rfl) (by first | exact Sb.refl | exact Sb.nil | (repeat (first | exact Sb.nil | exact Sb.refl | exact Sb.app0 | apply Sb.keep | apply Sb.keepApp | apply Sb.cons | apply Sb.app))) (rd_addn rfl rfl (by omega) (by omega)) rfl (by kernel_rfl) ?_
      refine xm_take 14 (m' := 32767) rfl (by kernel_rfl) (by first | exact Sb.refl | exact Sb.nil | (repeat (first | exact Sb.nil | exact Sb.refl | exact Sb.app0 | apply Sb.keep | apply Sb.keepApp | apply Sb.cons | apply Sb.app))) (rd_nilCheck rfl) rfl (by kernel_rfl) ?_
      refine xm_take 15 (m' := 65535) rfl (by kernel_rfl) (by first | exact Sb.refl | exact Sb.nil | (repeat (first | exact Sb.nil | exact Sb.refl | exact Sb.app0 | apply Sb.keep | apply Sb.keepApp | apply Sb.cons | apply Sb.app))) (rd_fieldAddr rfl) rfl (by kernel_rfl) ?_
      refine xm_one 16 (m' := 131071) rfl (by kernel_rfl) rfl (by kernel_rfl) (ef_store1 [] _ rfl rfl (by first | rfl | assumption) rfl rfl rfl ?_)
      refine ⟨(by first | exact Sb.refl | exact Sb.nil | (repeat (first | exact Sb.nil | exact Sb.refl | exact Sb.app0 | apply Sb.keep | apply Sb.keepApp | apply Sb.cons | apply Sb.app))), ?_⟩
      refine xm_take 17 (m' := 262143) rfl (by kernel_rfl) (by first | exact Sb.refl | exact Sb.nil | (repeat (first | exact Sb.nil | exact Sb.refl | exact Sb.app0 | apply Sb.keep | apply Sb.keepApp | apply Sb.cons | apply Sb.app))) (rd_nilCheck rfl) rfl (by kernel_rfl) ?_
      refine xm_take 18 (m' := 524287) rfl (by kernel_rfl) (by first | exact Sb.refl | exact Sb.nil | (repeat (first | exact Sb.nil | exact Sb.refl | exact Sb.app0 | apply Sb.keep | apply Sb.keepApp | apply Sb.cons | apply Sb.app))) (rd_fieldAddr rfl) rfl (by kernel_rfl) ?_
      refine xm_one 19 (m' := 1048575) rfl (by kernel_rfl) rfl (by kernel_rfl) (ef_store1 [] _ rfl rfl (by first | rfl | assumption) rfl rfl rfl ?_)
      refine ⟨(by first | exact Sb.refl | exact Sb.nil | (repeat (first | exact Sb.nil | exact Sb.refl | exact Sb.app0 | apply Sb.keep | apply Sb.keepApp | apply Sb.cons | apply Sb.app))), ?_⟩
      refine xm_done (by kernel_rfl) ?_
      refine xq_seq ?_
      refine xc_seq ?_
      refine xc_region ?_
      refine xo_rd (rd_move rfl) rfl ?_
      refine xo_rd (rd_assign rfl) rfl ?_
      refine xo_nil ?_
      refine xq_seq ?_
      refine xc_ret ?_
      rotate_left
      refine xm_take 13 (m' := 16223) rfl (by kernel_rfl) (by first | exact Sb.refl | exact Sb.nil | (repeat (first | exact Sb.nil | exact Sb.refl | exact Sb.app0 | apply Sb.keep | apply Sb.keepApp | apply Sb.cons | apply Sb.app))) (rd_addn rfl rfl (by omega) (by omega)) rfl (by kernel_rfl) ?_
      refine xm_one 5 (m' := 16255) rfl (by kernel_rfl) rfl (by kernel_rfl) (ef_rd (rd_load1 rfl (Cl.o0 rfl)) ?_)
      refine ⟨(by first | exact Sb.refl | exact Sb.nil | (repeat (first | exact Sb.nil | exact Sb.refl | exact Sb.app0 | apply Sb.keep | apply Sb.keepApp | apply Sb.cons | apply Sb.app))), ?_⟩
      refine xm_take 7 (m' := 16383) rfl (by kernel_rfl) (by first | exact Sb.refl | exact Sb.nil | (repeat (first | exact Sb.nil | exact Sb.refl | exact Sb.app0 | apply Sb.keep | apply Sb.keepApp | apply Sb.cons | apply Sb.app))) (rd_slLo rfl rfl (by omega) (by omega)) rfl (by kernel_rfl) ?_
      refine xm_take 14 (m' := 32767) rfl (by kernel_rfl) (by first | exact Sb.refl | exact Sb.nil | (repeat (first | exact Sb.nil | exact Sb.refl | exact Sb.app0 | apply Sb.keep | apply Sb.keepApp | apply Sb.cons | apply Sb.app))) (rd_nilCheck rfl) rfl (by kernel_rfl) ?_
      refine xm_take 15 (m' := 65535) rfl (by kernel_rfl) (by first | exact Sb.refl | exact Sb.nil | (repeat (first | exact Sb.nil | exact Sb.refl | exact Sb.app0 | apply Sb.keep | apply Sb.keepApp | apply Sb.cons | apply Sb.app))) (rd_fieldAddr rfl) rfl (by kernel_rfl) ?_
      refine xm_one 16 (m' := 131071) rfl (by kernel_rfl) rfl (by kernel_rfl) (ef_store1 [] _ rfl rfl (by first | rfl | assumption) rfl rfl rfl ?_)
      refine ⟨(by first | exact Sb.refl | exact Sb.nil | (repeat (first | exact Sb.nil | exact Sb.refl | exact Sb.app0 | apply Sb.keep | apply Sb.keepApp | apply Sb.cons | apply Sb.app))), ?_⟩
      refine xm_take 17 (m' := 262143) rfl (by kernel_rfl) (by first | exact Sb.refl | exact Sb.nil | (repeat (first | exact Sb.nil | exact Sb.refl | exact Sb.app0 | apply Sb.keep | apply Sb.keepApp | apply Sb.cons | apply Sb.app))) (rd_nilCheck rfl) rfl (by kernel_rfl) ?_
      refine xm_take 18 (m' := 524287) rfl (by kernel_rfl) (by first | exact Sb.refl | exact Sb.nil | (repeat (first | exact Sb.nil | exact Sb.refl | exact Sb.app0 | apply Sb.keep | apply Sb.keepApp | apply Sb.cons | apply Sb.app))) (rd_fieldAddr rfl) rfl (by kernel_rfl) ?_
      refine xm_one 19 (m' := 1048575) rfl (by kernel_rfl) rfl (by kernel_rfl) (ef_store1 [] _ rfl rfl (by first | rfl | assumption) rfl rfl rfl ?_)
      refine ⟨(by first | exact Sb.refl | exact Sb.nil | (repeat (first | exact Sb.nil | exact Sb.refl | exact Sb.app0 | apply Sb.keep | apply Sb.keepApp | apply Sb.cons | apply Sb.app))), ?_⟩
      refine xm_done (by kernel_rfl) ?_
      refine xq_seq ?_
      refine xc_seq ?_
      refine xc_region ?_
      refine xo_rd (rd_move rfl) rfl ?_
      refine xo_rd (rd_assign rfl) rfl ?_
      refine xo_nil ?_
      refine xq_seq ?_
      refine xc_ret ?_
      rotate_left
    all_goals refine xq_ret1 (.inl rfl) Try.results75 rfl ⟨p, c, [], rfl, by omega, by rw [ints_take]; exact hr.take n, slp p c n 1, c - n, fun L0 h => by rw [ints_drop]; exact h.slp c n (by rw [ints_len]; omega), by dsimp only; rw [List.length_drop]; omega, ?_⟩
    all_goals (unfold rdC; dsimp only; rw [List.length_drop]; rfl)
theorem Rd.take_get (r : Rd) (K : Nat) (h : r.Ok K) : By ((r.take 1).1.getD 0 0) := by
  have h1 := (Rd.take_by h 1).1
  have h2 := r.take_len 1
  rw [List.getD_eq_getElem?_getD, List.getElem?_eq_getElem (by omega)]
  exact h1 _ (List.getElem_mem _)
set_option maxHeartbeats 4000000 in
theorem xf_byte {W : World} {L : List Blk} (b : Nat) (p : Option Addr) (c : Nat) (r : Rd) (n : Nat) (hn : (r.take 1).1.getD 0 0 = n) (hr : Rs W L p (ints .u8 r.l)) (hc : r.l.length ≤ c) (hk : r.k + r.l.length ≤ 1000000000) :
    XF Try.prog W 76 #[.pointer (some ⟨b, 0, none⟩)] ((b, .cells (rdC p c r).toArray 116 (0, 0)) :: L) (fun v L' => v = .int .u8 n ∧ RdN W L b p r (r.take 1).2 L') := by
  refine xf_enter (args := [_]) Try.func76 rfl Try.ntmps76 rfl ?_
  focus
    refine xc_seq ?_
    refine xc_region ?_
    refine xo_rd (rd_assign rfl) rfl ?_
    refine xo_nil ?_
    refine xq_seq ?_
    refine xc_seq ?_
    refine xc_region ?_
    refine xo_rd (rd_move rfl) rfl ?_
    refine xo_ef rfl (ef_call rfl (XF.mono (xf_bts b p c r 1 hr hc hk (by decide)) ?_))
    rintro v L' ⟨q, k, l, rfl, hk1, hq, p', c', hs, hc', rfl⟩
  have hl1 := r.take_len 1
  obtain ⟨b1, o1, rfl, hc1⟩ := hq.int (i := 0) (by omega)
  have hc2 : ∀ z, Cl W (z :: (l ++ L)) b1 (o1 + Int.toNat 0 * 1) (.int .u8 n) := fun z => by
    have h1 : (r.take 1).1[0]'(by omega) = n := by rw [← hn, List.getD_eq_getElem?_getD, List.getElem?_eq_getElem (by omega)]; rfl
    rw [h1] at hc1
    exact hc1.mono fun y hy => List.mem_cons_of_mem _ hy
  focus
    refine xo_rd (rd_indexAddr rfl rfl (by omega) (by omega)) rfl ?_
    refine xo_rd (rd_load1 rfl (hc2 _)) rfl ?_
    refine xo_rd (rd_assign rfl) rfl ?_
    refine xo_nil ?_
    refine xq_seq ?_
    refine xc_ret ?_
  exact xq_sub (.cons_cons _ (List.sublist_append_right l L)) (xq_ret1 (.inl rfl) Try.results76 rfl ⟨rfl, p', c', hs, hc', rfl⟩)
set_option maxHeartbeats 4000000 in
theorem xf_rlong {W : World} {L : List Blk} (b : Nat) (p : Option Addr) (c : Nat) (r : Rd) (K : Nat) (ho : r.Ok K) (hK : K ≤ 1000000000) (hr : Rs W L p (ints .u8 r.l)) (hc : r.l.length ≤ c) :
    XF Try.prog W 63 #[.pointer (some ⟨b, 0, none⟩)] ((b, .cells (rdC p c r).toArray 116 (0, 0)) :: L) (fun v L' => v = .int .u32 (vl (r.take 4).1) ∧ RdN W L b p r (r.take 4).2 L') := by
  refine xf_enter (args := [_]) Try.func63 rfl Try.ntmps63 rfl ?_
  have hsz := ho.sz
  focus
    refine xc_seq ?_
    refine xc_region ?_
    refine xo_rd (rd_assign rfl) rfl ?_
    refine xo_nil ?_
    refine xq_seq ?_
    refine xc_seq ?_
    refine xc_seq ?_
    refine xc_region ?_
    refine xo_rd (rd_move rfl) rfl ?_
    refine xo_ef rfl (ef_call rfl (XF.mono (xf_bts b p c r 4 hr hc (by omega) (by decide)) ?_))
    rintro v L' ⟨q, k, l, rfl, hk1, hq, p', c', hs, hc', rfl⟩
    refine xo_rd (rd_len rfl) rfl ?_
    refine xo_rd (rd_move rfl) rfl ?_
    refine xo_nil ?_
    refine xq_seq ?_
    refine xc_block ?_
  have hl4 := r.take_len 4
  have hby := (Rd.take_by ho 4).1
  generalize hys : (r.take 4).1 = ys at *
  refine xc_loopI (ι := Nat × Int) (fun s => s.1 ≤ 4 ∧ s.2 = vl (ys.take s.1)) (fun s => 4 - s.1) (fun _ => (b, .cells (rdC p' c' (r.take 4).2).toArray 116 (0, 0)) :: (l ++ L)) (fun s => [(6, .slice q 4 k), (7, .int .i64 4), (2, .int .u32 s.2), (8, .int .i64 s.1)]) (0, 0) ⟨Nat.zero_le _, rfl⟩ rfl (by repeat (first | exact keep_nil | refine keep_cons rfl ?_)) ?_
  rintro ⟨i, v⟩ ⟨hi, hv⟩
  dsimp only at hi hv ⊢
  have hbd := vl_bd ys hby i (by omega)
  rw [← hv] at hbd
  by_cases hi4 : i < 4
  · obtain ⟨b1, o1, rfl, hc1⟩ := hq.int (i := i) (by omega)
    have hxk := hby ys[i] (List.getElem_mem _)
    unfold By at hxk
    have hp := pow_bd i (by omega)
    have hc2 : ∀ z, Cl W (z :: (l ++ L)) b1 (o1 + (i : Int).toNat * 1) (.int .u8 ys[i]) := fun z => by
      exact hc1.mono fun y hy => List.mem_cons_of_mem _ hy
    focus
      refine xc_seq ?_
      refine xc_region ?_
      refine xo_rd (rd_lss rfl rfl) rfl ?_
      refine xo_nil ?_
      refine xq_seq ?_
      refine xc_seq ?_
      refine xc_dec rfl (fun h1 => ?_) (fun h1 => (by exfalso; omega))
      refine xc_skip ?_
      refine xq_seq ?_
      refine xc_seq ?_
      refine xc_block ?_
      refine xc_seq ?_
      refine xc_region ?_
      refine xo_rd (rd_indexAddr rfl rfl (by omega) (by omega)) rfl ?_
      refine xo_rd (rd_load1 rfl (hc2 _)) rfl ?_
      refine xo_rd (rd_assign rfl) rfl ?_
      refine xo_nil ?_
      refine xq_seq ?_
      refine xc_region ?_
      refine xo_rd (rd_move rfl) rfl ?_
      refine xo_rd (rd_cast (v' := .int .u32 (v * 256)) (rd_shl rfl rfl (by decide) (by decide)) (congrArg (Value.int .u32) (KB.h _ (by show 0 ≤ v * 256; omega) (by show v * 256 ≤ _; omega)))) rfl ?_
      refine xo_rd (rd_move rfl) rfl ?_
      refine xo_rd (rd_convn rfl (by omega) (by omega)) rfl ?_
      refine xo_rd (rd_cast (v' := .int .u32 (v * 256 + ys[i])) (rd_or rfl rfl) (congrArg (Value.int .u32) (or32 v ys[i] (by omega) (by omega) (by omega) (by omega)))) rfl ?_
      refine xo_rd (rd_assign rfl) rfl ?_
      refine xo_nil ?_
      refine xq_block ?_
      refine xq_seq ?_
      refine xc_region ?_
      refine xo_rd (rd_addn rfl rfl (by omega) (by omega)) rfl ?_
      refine xo_rd (rd_move rfl) rfl ?_
      refine xo_nil ?_
    refine xq_roundI (i + 1, _) ⟨by dsimp only; omega, ?_⟩ (by dsimp only; omega) rfl (by repeat (first | exact keep_nil | refine keep_cons rfl ?_))
    dsimp only
    rw [vl_take ys i (by omega), hv]
  · have : i = 4 := by omega
    subst this
    focus
      refine xc_seq ?_
      refine xc_region ?_
      refine xo_rd (rd_lss rfl rfl) rfl ?_
      refine xo_nil ?_
      refine xq_seq ?_
      refine xc_seq ?_
      refine xc_condf rfl ?_
      refine xc_exit ?_
      refine xq_then_exit ?_
      refine xq_then_exit ?_
      refine xq_block_hit ?_
      refine xq_seq ?_
      refine xc_seq ?_
      refine xc_region ?_
      refine xo_rd (rd_move rfl) rfl ?_
      refine xo_rd (rd_assign rfl) rfl ?_
      refine xo_nil ?_
      refine xq_seq ?_
      refine xc_ret ?_
    rw [List.take_of_length_le (by omega)] at hv
    subst hv
    exact xq_sub (.cons_cons _ (List.sublist_append_right l L)) (xq_ret1 (.inl rfl) Try.results63 rfl ⟨rfl, p', c', hs, hc', rfl⟩)
def Rd.text (r : Rd) : List Int × Rd := (r.take 1).2.take ((r.take 1).1.getD 0 0).toNat
set_option maxHeartbeats 4000000 in
theorem xf_rtext {W : World} {L : List Blk} (b : Nat) (p : Option Addr) (c : Nat) (r : Rd) (K : Nat) (ho : r.Ok K) (hK : K ≤ 1000000000) (hr : Rs W L p (ints .u8 r.l)) (hc : r.l.length ≤ c) :
    XF Try.prog W 68 #[.pointer (some ⟨b, 0, none⟩)] ((b, .cells (rdC p c r).toArray 116 (0, 0)) :: L) (fun v L' => v = .string (strOfNums r.text.1) ∧ RdN W L b p r r.text.2 L') := by
  refine xf_enter (args := [_]) Try.func68 rfl Try.ntmps68 rfl ?_
  have hsz := ho.sz
  have hby := r.take_get K ho
  have ho2 := (Rd.take_by ho 1).2
  have hsz2 := ho2.sz
  unfold By at hby
  unfold Rd.text
  obtain ⟨n, hn⟩ : ∃ n : Nat, (r.take 1).1.getD 0 0 = n := ⟨((r.take 1).1.getD 0 0).toNat, by omega⟩
  rw [hn] at hby
  rw [hn, show (n : Int).toNat = n from rfl]
  have hl := (r.take 1).2.take_len n
  focus
    refine xc_seq ?_
    refine xc_region ?_
    refine xo_rd (rd_assign rfl) rfl ?_
    refine xo_nil ?_
    refine xq_seq ?_
    refine xc_seq ?_
    refine xc_region ?_
    refine xo_rd (rd_move rfl) rfl ?_
    refine xo_rd (rd_move rfl) rfl ?_
    refine xo_ef rfl (ef_call rfl (XF.mono (xf_byte b p c r n hn hr hc (by omega)) ?_))
    rintro v L' ⟨rfl, p', c', hs, hc', rfl⟩
    refine xo_rd (rd_convn rfl (by omega) (by omega)) rfl ?_
    refine xo_ef rfl (ef_call rfl (XF.mono (xf_bts b p' c' (r.take 1).2 n (hs _ hr) hc' (by omega) (by omega)) ?_))
    rintro v L' ⟨q, k, l, rfl, hk1, hq, p2, c2, hs2, hc2, rfl⟩
    refine xo_rd (rd_convStr (hq.mono fun y hy => List.mem_cons_of_mem _ hy) rfl hl) rfl ?_
    refine xo_rd (rd_assign rfl) rfl ?_
    refine xo_nil ?_
    refine xq_seq ?_
    refine xc_ret ?_
  exact xq_sub (.cons_cons _ (List.sublist_append_right l L)) (xq_ret1 (.inl rfl) Try.results68 rfl ⟨rfl, p2, c2, fun L0 h => hs2 L0 (hs L0 h), hc2, rfl⟩)
def Rd.fill (r : Rd) : Rd := (r.take ((4 - r.k % 4) % 4)).2
set_option maxHeartbeats 4000000 in
theorem xf_rfill {W : World} {L : List Blk} (b : Nat) (p : Option Addr) (c : Nat) (r : Rd) (K : Nat) (ho : r.Ok K) (hK : K ≤ 1000000000) (hr : Rs W L p (ints .u8 r.l)) (hc : r.l.length ≤ c) :
    XF Try.prog W 69 #[.pointer (some ⟨b, 0, none⟩)] ((b, .cells (rdC p c r).toArray 116 (0, 0)) :: L) (fun v L' => v = .tuple #[] ∧ RdN W L b p r r.fill L') := by
  refine xf_enter (args := [_]) Try.func69 rfl Try.ntmps69 rfl ?_
  have hsz := ho.sz
  have hld : ∀ R, Cl W ((b, .cells (rdC p c r).toArray 116 (0, 0)) :: R) b (0 + 1) (.int .i64 r.k) := fun R => Cl.o0 rfl
  focus
    refine xc_region ?_
    refine xo_rd (rd_move rfl) rfl ?_
    refine xo_rd (rd_move rfl) rfl ?_
    refine xo_rd (rd_nilCheck rfl) rfl ?_
    refine xo_rd (rd_fieldAddr rfl) rfl ?_
    refine xo_rd (rd_load1 rfl (hld _)) rfl ?_
    refine xo_rd (rd_cast (v' := .int .i64 (-(r.k : Int))) (rd_neg rfl) (congrArg (Value.int .i64) (KB.h _ (by omega) (by omega)))) rfl ?_
    refine xo_rd (rd_cast (v' := .int .i64 (((4 - r.k % 4) % 4 : Nat) : Int)) (rd_and rfl rfl) (congrArg (Value.int .i64) (and64_3 r.k (by omega)))) rfl ?_
    refine xo_ef rfl (ef_call rfl (XF.mono (xf_bts b p c r ((4 - r.k % 4) % 4) hr hc (by omega) (by omega)) ?_))
    rintro v L' ⟨q, k, l, rfl, hk1, hq, p2, c2, hs2, hc2, rfl⟩
    refine xo_nil ?_
  exact xq_sub (.cons_cons _ (List.sublist_append_right l L)) (xq_ret0 (.inr rfl) Try.results69 ⟨rfl, p2, c2, hs2, hc2, rfl⟩)
/-- The error of a packet that was read. -/
def toldE (q : Pc) (r : Rd) (kind : Int) (whole : Bool) : Int := if q.kd ≠ kind then 62 else if r.bad = true ∨ (whole = true ∧ 0 < r.l.length) then 63 else 0
set_option maxHeartbeats 4000000 in
theorem xf_told {W : World} {L : List Blk} (b : Nat) (p : Option Addr) (c : Nat) (r : Rd) (x : Pb) (kind : Int) (whole : Bool) :
    XF Try.prog W 65 #[.pointer (some ⟨b, 0, none⟩), .agg x.enc.toArray, .int .u8 kind, .bool whole] ((b, .cells (rdC p c r).toArray 116 (0, 0)) :: L) (fun v L' => v = .int .i64 (toldE x.q r kind whole) ∧ L' = (b, .cells (rdC p c r).toArray 116 (0, 0)) :: L) := by
  refine xf_enter (args := [_, _, _, _]) Try.func65 rfl Try.ntmps65 rfl ?_
  obtain ⟨⟨ct, kd, bd, pd⟩, xp, xc, xl⟩ := x
  obtain ⟨rl, rk, bad⟩ := r
  unfold rdC Pb.enc Pc.enc toldE
  dsimp only
  by_cases hkd : kd = kind
  · rw [if_neg (by simpa using hkd)]
    cases bad with
    | true =>
      rw [if_pos (.inl rfl)]
      focus
        refine xc_seq ?_
        refine xc_region ?_
        refine xo_ef rfl (ef_box rfl fun r5 => ?_)
        refine xo_rd (rd_assign rfl) rfl ?_
        refine xo_nil ?_
        refine xq_seq ?_
        refine xc_seq ?_
        refine xc_block ?_
        refine xc_seq ?_
        refine xc_region ?_
        refine xo_rd (rd_fieldAddr rfl) rfl ?_
        refine xo_rd (rd_load1 rfl (Cl.o0 rfl)) rfl ?_
        refine xo_rd (rd_move rfl) rfl ?_
        refine xo_rd (rd_neq rfl rfl) rfl ?_
        refine xo_rd (rd_assign rfl) rfl ?_
        refine xo_nil ?_
        refine xq_seq ?_
        refine xc_ndec rfl (fun h1 => (by exfalso; omega)) (fun h1 => ?_)
        refine xc_seq ?_
        refine xc_seq ?_
        refine xc_region ?_
        refine xo_rd (rd_move rfl) rfl ?_
        refine xo_rd (rd_nilCheck rfl) rfl ?_
        refine xo_rd (rd_fieldAddr rfl) rfl ?_
        refine xo_rd (rd_load1 rfl (Cl.o1 rfl)) rfl ?_
        refine xo_rd (rd_assign rfl) rfl ?_
        refine xo_nil ?_
        refine xq_seq ?_
        refine xc_condt rfl ?_
        refine xc_skip ?_
        refine xq_seq ?_
        refine xc_condt rfl ?_
        refine xc_seq ?_
        refine xc_region ?_
        refine xo_rd (rd_assign rfl) rfl ?_
        refine xo_nil ?_
        refine xq_seq ?_
        refine xc_ret ?_
        refine xq_block_ret ?_
        refine xq_then_ret ?_
      exact xq_tail (xq_ret1 (.inl rfl) Try.results65 rfl ⟨rfl, rfl⟩)
    | false =>
      cases whole with
      | false =>
        rw [if_neg (by simp)]
        focus
          refine xc_seq ?_
          refine xc_region ?_
          refine xo_ef rfl (ef_box rfl fun r5 => ?_)
          refine xo_rd (rd_assign rfl) rfl ?_
          refine xo_nil ?_
          refine xq_seq ?_
          refine xc_seq ?_
          refine xc_block ?_
          refine xc_seq ?_
          refine xc_region ?_
          refine xo_rd (rd_fieldAddr rfl) rfl ?_
          refine xo_rd (rd_load1 rfl (Cl.o0 rfl)) rfl ?_
          refine xo_rd (rd_move rfl) rfl ?_
          refine xo_rd (rd_neq rfl rfl) rfl ?_
          refine xo_rd (rd_assign rfl) rfl ?_
          refine xo_nil ?_
          refine xq_seq ?_
          refine xc_ndec rfl (fun h1 => (by exfalso; omega)) (fun h1 => ?_)
          refine xc_seq ?_
          refine xc_seq ?_
          refine xc_region ?_
          refine xo_rd (rd_move rfl) rfl ?_
          refine xo_rd (rd_nilCheck rfl) rfl ?_
          refine xo_rd (rd_fieldAddr rfl) rfl ?_
          refine xo_rd (rd_load1 rfl (Cl.o1 rfl)) rfl ?_
          refine xo_rd (rd_assign rfl) rfl ?_
          refine xo_nil ?_
          refine xq_seq ?_
          refine xc_condf rfl ?_
          refine xc_region ?_
          refine xo_rd (rd_move rfl) rfl ?_
          refine xo_rd (rd_move rfl) rfl ?_
          refine xo_gskip rfl rfl rfl rfl ?_
          refine xo_gskip rfl rfl rfl rfl ?_
          refine xo_gskip rfl rfl rfl rfl ?_
          refine xo_gskip rfl rfl rfl rfl ?_
          refine xo_gskip rfl rfl rfl rfl ?_
          refine xo_gskip rfl rfl rfl rfl ?_
          refine xo_rd (rd_pickf rfl rfl) rfl ?_
          refine xo_rd (rd_assign rfl) rfl ?_
          refine xo_nil ?_
          refine xq_seq ?_
          refine xc_condf rfl ?_
          refine xc_skip ?_
          refine xq_block ?_
          refine xq_seq ?_
          refine xc_seq ?_
          refine xc_region ?_
          refine xo_rd (rd_assign rfl) rfl ?_
          refine xo_nil ?_
          refine xq_seq ?_
          refine xc_ret ?_
        exact xq_tail (xq_ret1 (.inl rfl) Try.results65 rfl ⟨rfl, rfl⟩)
      | true =>
        by_cases h0 : 0 < rl.length
        · rw [if_pos (.inr ⟨rfl, h0⟩)]
          focus
            refine xc_seq ?_
            refine xc_region ?_
            refine xo_ef rfl (ef_box rfl fun r5 => ?_)
            refine xo_rd (rd_assign rfl) rfl ?_
            refine xo_nil ?_
            refine xq_seq ?_
            refine xc_seq ?_
            refine xc_block ?_
            refine xc_seq ?_
            refine xc_region ?_
            refine xo_rd (rd_fieldAddr rfl) rfl ?_
            refine xo_rd (rd_load1 rfl (Cl.o0 rfl)) rfl ?_
            refine xo_rd (rd_move rfl) rfl ?_
            refine xo_rd (rd_neq rfl rfl) rfl ?_
            refine xo_rd (rd_assign rfl) rfl ?_
            refine xo_nil ?_
            refine xq_seq ?_
            refine xc_ndec rfl (fun h1 => (by exfalso; omega)) (fun h1 => ?_)
            refine xc_seq ?_
            refine xc_seq ?_
            refine xc_region ?_
            refine xo_rd (rd_move rfl) rfl ?_
            refine xo_rd (rd_nilCheck rfl) rfl ?_
            refine xo_rd (rd_fieldAddr rfl) rfl ?_
            refine xo_rd (rd_load1 rfl (Cl.o1 rfl)) rfl ?_
            refine xo_rd (rd_assign rfl) rfl ?_
            refine xo_nil ?_
            refine xq_seq ?_
            refine xc_condf rfl ?_
            refine xc_region ?_
            refine xo_rd (rd_move rfl) rfl ?_
            refine xo_rd (rd_move rfl) rfl ?_
            refine xo_grd rfl rfl (rd_move rfl) rfl ?_
            refine xo_grd rfl rfl (rd_nilCheck rfl) rfl ?_
            refine xo_grd rfl rfl (rd_fieldAddr rfl) rfl ?_
            refine xo_grd rfl rfl (rd_load1 rfl (Cl.o1 rfl)) rfl ?_
            refine xo_grd rfl rfl (rd_len rfl) rfl ?_
            refine xo_grd rfl rfl (rd_gtr rfl rfl) rfl ?_
            refine xo_rd (rd_pickt rfl rfl) rfl ?_
            refine xo_rd (rd_assign rfl) rfl ?_
            refine xo_nil ?_
            refine xq_seq ?_
            refine xc_dec rfl (fun h2 => ?_) (fun h2 => (by exfalso; omega))
            refine xc_seq ?_
            refine xc_region ?_
            refine xo_rd (rd_assign rfl) rfl ?_
            refine xo_nil ?_
            refine xq_seq ?_
            refine xc_ret ?_
            refine xq_block_ret ?_
            refine xq_then_ret ?_
          exact xq_tail (xq_ret1 (.inl rfl) Try.results65 rfl ⟨rfl, rfl⟩)
        · rw [if_neg (by simpa using h0)]
          focus
            refine xc_seq ?_
            refine xc_region ?_
            refine xo_ef rfl (ef_box rfl fun r5 => ?_)
            refine xo_rd (rd_assign rfl) rfl ?_
            refine xo_nil ?_
            refine xq_seq ?_
            refine xc_seq ?_
            refine xc_block ?_
            refine xc_seq ?_
            refine xc_region ?_
            refine xo_rd (rd_fieldAddr rfl) rfl ?_
            refine xo_rd (rd_load1 rfl (Cl.o0 rfl)) rfl ?_
            refine xo_rd (rd_move rfl) rfl ?_
            refine xo_rd (rd_neq rfl rfl) rfl ?_
            refine xo_rd (rd_assign rfl) rfl ?_
            refine xo_nil ?_
            refine xq_seq ?_
            refine xc_ndec rfl (fun h1 => (by exfalso; omega)) (fun h1 => ?_)
            refine xc_seq ?_
            refine xc_seq ?_
            refine xc_region ?_
            refine xo_rd (rd_move rfl) rfl ?_
            refine xo_rd (rd_nilCheck rfl) rfl ?_
            refine xo_rd (rd_fieldAddr rfl) rfl ?_
            refine xo_rd (rd_load1 rfl (Cl.o1 rfl)) rfl ?_
            refine xo_rd (rd_assign rfl) rfl ?_
            refine xo_nil ?_
            refine xq_seq ?_
            refine xc_condf rfl ?_
            refine xc_region ?_
            refine xo_rd (rd_move rfl) rfl ?_
            refine xo_rd (rd_move rfl) rfl ?_
            refine xo_grd rfl rfl (rd_move rfl) rfl ?_
            refine xo_grd rfl rfl (rd_nilCheck rfl) rfl ?_
            refine xo_grd rfl rfl (rd_fieldAddr rfl) rfl ?_
            refine xo_grd rfl rfl (rd_load1 rfl (Cl.o1 rfl)) rfl ?_
            refine xo_grd rfl rfl (rd_len rfl) rfl ?_
            refine xo_grd rfl rfl (rd_gtr rfl rfl) rfl ?_
            refine xo_rd (rd_pickt rfl rfl) rfl ?_
            refine xo_rd (rd_assign rfl) rfl ?_
            refine xo_nil ?_
            refine xq_seq ?_
            refine xc_dec rfl (fun h2 => (by exfalso; omega)) (fun h2 => ?_)
            refine xc_skip ?_
            refine xq_block ?_
            refine xq_seq ?_
            refine xc_seq ?_
            refine xc_region ?_
            refine xo_rd (rd_assign rfl) rfl ?_
            refine xo_nil ?_
            refine xq_seq ?_
            refine xc_ret ?_
          exact xq_tail (xq_ret1 (.inl rfl) Try.results65 rfl ⟨rfl, rfl⟩)
  · rw [if_pos hkd]
    focus
      refine xc_seq ?_
      refine xc_region ?_
      refine xo_ef rfl (ef_box rfl fun r5 => ?_)
      refine xo_rd (rd_assign rfl) rfl ?_
      refine xo_nil ?_
      refine xq_seq ?_
      refine xc_seq ?_
      refine xc_block ?_
      refine xc_seq ?_
      refine xc_region ?_
      refine xo_rd (rd_fieldAddr rfl) rfl ?_
      refine xo_rd (rd_load1 rfl (Cl.o0 rfl)) rfl ?_
      refine xo_rd (rd_move rfl) rfl ?_
      refine xo_rd (rd_neq rfl rfl) rfl ?_
      refine xo_rd (rd_assign rfl) rfl ?_
      refine xo_nil ?_
      refine xq_seq ?_
      refine xc_ndec rfl (fun h1 => ?_) (fun h1 => (by exfalso; omega))
      refine xc_seq ?_
      refine xc_region ?_
      refine xo_rd (rd_assign rfl) rfl ?_
      refine xo_nil ?_
      refine xq_seq ?_
      refine xc_ret ?_
      refine xq_block_ret ?_
      refine xq_then_ret ?_
    exact xq_tail (xq_ret1 (.inl rfl) Try.results65 rfl ⟨rfl, rfl⟩)
end Go.Proofs.Ytohlaabclifbfaa.X
