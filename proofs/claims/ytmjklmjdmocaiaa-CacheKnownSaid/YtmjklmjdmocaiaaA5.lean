/-
  The cache's New, Get, Numbers and Len, by walks of my own.
-/
import Derived.Test.YtmjklmjdmocaiaaA4
namespace Go.Proofs.Ytmjklmjdmocaiaa.X
open Go Go.RowKit
set_option linter.unusedVariables false
set_option linter.unusedSimpArgs false
theorem Ca.kn {W : World} {L : List Blk} (x : Ca) {p : Pk} (hp : p ∈ x.ps) : Kn W (x.blks ++ L) p.b (.cells p.cells.toArray 67 (0, 0)) := Kn.own (by
  rw [Ca.blks_app]
  refine List.mem_cons_of_mem _ (List.mem_cons_of_mem _ (List.mem_append_right _ (List.mem_append_left _ (List.mem_flatMap.2 ⟨p, hp, ?_⟩))))
  exact List.Mem.head _)
theorem Ca.lmem (x : Ca) {L : List Blk} {p : Pk} (hp : p ∈ x.ps) : ∀ z, z ∈ p.l → z ∈ x.blks ++ L := fun z hz => by
  rw [Ca.blks_app]
  exact List.mem_cons_of_mem _ (List.mem_cons_of_mem _ (List.mem_append_right _ (List.mem_append_left _ (List.mem_flatMap.2 ⟨p, hp, List.mem_cons_of_mem _ hz⟩))))
theorem find_pp (ps : List Pk) (n : Int) : (ps.map Pk.pp).find? (fun q => q.n == n) = (ps.find? (fun q => q.n == n)).map Pk.pp := by
  rw [List.find?_map]; rfl
/-- What is had of a number: none, or a packet. -/
theorem Ca.has_cases (x : Ca) (n : Int) : (ptrAt x.ps n = none ∧ x.st.has n = none) ∨ ∃ p ps1 ps2, x.ps = ps1 ++ p :: ps2 ∧ p.n = n ∧ (∀ q, q ∈ ps1 → q.n ≠ n) ∧ ptrAt x.ps n = some (.pointer (some ⟨p.b, 0, none⟩)) ∧ x.st.has n = some p.pp := by
  unfold Sta.has Ca.st ptrAt
  dsimp only
  rw [find_pp]
  cases h : x.ps.find? (fun q => q.n == n) with
  | none => exact .inl ⟨rfl, rfl⟩
  | some p =>
    obtain ⟨h1, ps1, ps2, h2, h3⟩ := List.find?_eq_some_iff_append.1 h
    exact .inr ⟨p, ps1, ps2, h2, by simpa using h1, fun q hq => by simpa using h3 q hq, rfl, rfl⟩
theorem xf_packet {W : World} {L : List Blk} (x : Ca) (hx : x.Ok) (n : Int) (u : Value) (hu : (ptrAt x.ps n).getD (.pointer none) = u) : XF Try.prog W 29 #[.pointer (some ⟨x.c, 0, none⟩), .int .u16 n] (x.blks ++ L) (fun v L' => v = u ∧ L' = x.blks ++ L) := by
  subst hu
  refine xf_enter (args := [_, _]) Try.func29 rfl Try.ntmps29 rfl ?_
  have hmp := hx.map
  rw [Ca.blks_app]
  focus
    refine xc_seq ?_
    refine xc_region ?_
    refine xo_rd (rd_assign rfl) rfl ?_
    refine xo_nil ?_
    refine xq_seq ?_
    refine xc_seq ?_
    refine xc_seq ?_
    refine xc_region ?_
    refine xo_rd (rd_move rfl) rfl ?_
    refine xo_rd (rd_eqnil rfl) rfl ?_
    refine xo_nil ?_
    refine xq_seq ?_
    refine xc_condf rfl ?_
    refine xc_skip ?_
    refine xq_seq ?_
    refine xc_seq ?_
    refine xc_region ?_
    refine xo_rd (rd_move rfl) rfl ?_
    refine xo_rd (rd_nilCheck rfl) rfl ?_
    refine xo_rd (rd_fieldAddr rfl) rfl ?_
    refine xo_rd (rd_load1 rfl (Cl.o0 rfl)) rfl ?_
    refine xo_rd (rd_move rfl) rfl ?_
    refine xo_rd (rd_lookup (by assumption) rfl rfl Kn.o1) rfl ?_
    refine xo_rd (rd_assign rfl) rfl ?_
    refine xo_nil ?_
    refine xq_seq ?_
    refine xc_ret ?_
    exact xq_ret1 (.inl rfl) Try.results29 rfl (⟨rfl, rfl⟩)
theorem xf_get_none {W : World} {L : List Blk} (x : Ca) (hx : x.Ok) (n : Int) (hn : x.st.has n = none) : XF Try.prog W 16 #[.pointer (some ⟨x.c, 0, none⟩), .int .u16 n] (x.blks ++ L) (fun v L' => v = .tuple #[.slice none 0 0, .bool false] ∧ L' = x.blks ++ L) := by
  rcases x.has_cases n with ⟨h1, h2⟩ | ⟨p, ps1, ps2, h0, h1, h2, h3, h4⟩
  · refine xf_enter (args := [_, _]) Try.func16 rfl Try.ntmps16 rfl ?_
    focus
      refine xc_seq ?_
      refine xc_region ?_
      refine xo_rd (rd_assign rfl) rfl ?_
      refine xo_rd (rd_assign rfl) rfl ?_
      refine xo_nil ?_
      refine xq_seq ?_
      refine xc_seq ?_
      refine xc_region ?_
      refine xo_rd (rd_move rfl) rfl ?_
      refine xo_rd (rd_move rfl) rfl ?_
      refine xo_ef rfl (ef_call rfl (XF.mono (xf_packet x hx n (.pointer none) (by rw [h1]; rfl)) ?_))
      rintro v L' ⟨rfl, rfl⟩
      refine xo_rd (rd_assign rfl) rfl ?_
      refine xo_nil ?_
      refine xq_seq ?_
      refine xc_seq ?_
      refine xc_seq ?_
      refine xc_region ?_
      refine xo_rd (rd_move rfl) rfl ?_
      refine xo_rd (rd_eqnil rfl) rfl ?_
      refine xo_nil ?_
      refine xq_seq ?_
      refine xc_condt rfl ?_
      refine xc_seq ?_
      refine xc_region ?_
      refine xo_rd (rd_assign rfl) rfl ?_
      refine xo_rd (rd_assign rfl) rfl ?_
      refine xo_nil ?_
      refine xq_seq ?_
      refine xc_ret ?_
      refine xq_then_ret ?_
      exact xq_ret2 (.inl rfl) Try.results16 rfl rfl (⟨rfl, rfl⟩)
  · rw [h4] at hn; cases hn
theorem xf_get_some {W : World} {L : List Blk} (x : Ca) (hx : x.Ok) (n : Int) (q : Pp) (hn : x.st.has n = some q) : XF Try.prog W 16 #[.pointer (some ⟨x.c, 0, none⟩), .int .u16 n] (x.blks ++ L) (fun v L' => ∃ p k l, v = .tuple #[.slice p q.bs.length k, .bool true] ∧ SlO 1 5 (.slice p q.bs.length k) q.bs.length (ints .u8 q.bs) l ∧ q.bs.length ≤ k ∧ q.bs.length ≤ 1000 ∧ L' = l ++ (x.blks ++ L)) := by
  rcases x.has_cases n with ⟨h1, h2⟩ | ⟨p, ps1, ps2, h0, h1, h2, h3, h4⟩
  · rw [h2] at hn; cases hn
  · rw [h4] at hn
    cases hn
    have hmem : p ∈ x.ps := by rw [h0]; simp
    have hk : Kn W (x.blks ++ L) p.b (.cells p.cells.toArray 67 (0, 0)) := x.kn hmem
    have hp := hx.pk p hmem
    obtain ⟨qv, kv, hv, hO, _⟩ := hp.o.opn
    have hlen := hp.len
    refine xf_enter (args := [_, _]) Try.func16 rfl Try.ntmps16 rfl ?_
    have hld : Cl W (x.blks ++ L) p.b (0 + 0) (.slice qv p.bs.length kv) := ⟨_, _, _, hk, by rw [← hv]; rfl⟩
    focus
      refine xc_seq ?_
      refine xc_region ?_
      refine xo_rd (rd_assign rfl) rfl ?_
      refine xo_rd (rd_assign rfl) rfl ?_
      refine xo_nil ?_
      refine xq_seq ?_
      refine xc_seq ?_
      refine xc_region ?_
      refine xo_rd (rd_move rfl) rfl ?_
      refine xo_rd (rd_move rfl) rfl ?_
      refine xo_ef rfl (ef_call rfl (XF.mono (xf_packet x hx n (.pointer (some ⟨p.b, 0, none⟩)) (by rw [h3]; rfl)) ?_))
      rintro v L' ⟨rfl, rfl⟩
      refine xo_rd (rd_assign rfl) rfl ?_
      refine xo_nil ?_
      refine xq_seq ?_
      refine xc_seq ?_
      refine xc_seq ?_
      refine xc_region ?_
      refine xo_rd (rd_move rfl) rfl ?_
      refine xo_rd (rd_eqnil rfl) rfl ?_
      refine xo_nil ?_
      refine xq_seq ?_
      refine xc_condf rfl ?_
      refine xc_skip ?_
      refine xq_seq ?_
      refine xc_seq ?_
      refine xc_region ?_
      refine xo_rd (rd_move rfl) rfl ?_
      refine xo_rd (rd_nilCheck rfl) rfl ?_
      refine xo_rd (rd_fieldAddr rfl) rfl ?_
      refine xo_rd (rd_load1 rfl hld) rfl ?_
      refine xo_ef rfl (ef_call rfl (XF.mono (xf_cloneB _ _ _ _ (by rw [ints_len]; omega) (hO.rs (x.lmem hmem)) (ints_one _ _) (by omega)) ?_))
      rintro v L' ⟨qb, cb, lb, rfl, hqb, hcb, rfl⟩
      refine xo_rd (rd_assign rfl) rfl ?_
      refine xo_rd (rd_assign rfl) rfl ?_
      refine xo_nil ?_
      refine xq_seq ?_
      refine xc_ret ?_
    exact xq_ret2 (.inl rfl) Try.results16 rfl rfl ⟨qb, cb, lb, rfl, hqb, hcb, hlen, rfl⟩
theorem xf_numbers {W : World} {L : List Blk} (x : Ca) (hx : x.Ok) : XF Try.prog W 25 #[.pointer (some ⟨x.c, 0, none⟩)] (x.blks ++ L) (fun v L' => ∃ p k l, v = .slice p x.ps.length k ∧ SlO 1 30 (.slice p x.ps.length k) x.ps.length (ints .u16 (x.ps.map Pk.n)) l ∧ x.ps.length ≤ k ∧ L' = l ++ (x.blks ++ L)) := by
  obtain ⟨qv, kv, hv, hO, _⟩ := hx.nums.opn
  have hlen := hx.small
  refine xf_enter (args := [_]) Try.func25 rfl Try.ntmps25 rfl ?_
  have hld : Cl W (x.blks ++ L) x.c (0 + 2) (.slice qv x.ps.length kv) := ⟨_, _, _, Kn.own (by rw [Ca.blks_app]; exact List.Mem.head _), by rw [← hv]; rfl⟩
  focus
    refine xc_seq ?_
    refine xc_region ?_
    refine xo_rd (rd_assign rfl) rfl ?_
    refine xo_nil ?_
    refine xq_seq ?_
    refine xc_seq ?_
    refine xc_seq ?_
    refine xc_region ?_
    refine xo_rd (rd_move rfl) rfl ?_
    refine xo_rd (rd_eqnil rfl) rfl ?_
    refine xo_nil ?_
    refine xq_seq ?_
    refine xc_condf rfl ?_
    refine xc_skip ?_
    refine xq_seq ?_
    refine xc_seq ?_
    refine xc_region ?_
    refine xo_rd (rd_move rfl) rfl ?_
    refine xo_rd (rd_nilCheck rfl) rfl ?_
    refine xo_rd (rd_fieldAddr rfl) rfl ?_
    refine xo_rd (rd_load1 rfl hld) rfl ?_
    refine xo_ef rfl (ef_call rfl (XF.mono (xf_cloneN _ _ _ _ (by rw [ints_len]; simp) (hO.rs fun z hz => by rw [Ca.blks_app]; simp [hz]) (ints_one _ _) (by omega)) ?_))
    rintro v L' ⟨qb, cb, lb, rfl, hqb, hcb, rfl⟩
    refine xo_rd (rd_assign rfl) rfl ?_
    refine xo_nil ?_
    refine xq_seq ?_
    refine xc_ret ?_
  exact xq_ret1 (.inl rfl) Try.results25 rfl ⟨qb, cb, lb, rfl, hqb, hcb, rfl⟩
theorem xf_len {W : World} {L : List Blk} (x : Ca) (hx : x.Ok) : XF Try.prog W 24 #[.pointer (some ⟨x.c, 0, none⟩)] (x.blks ++ L) (fun v L' => v = .int .i64 x.ps.length ∧ L' = x.blks ++ L) := by
  refine xf_enter (args := [_]) Try.func24 rfl Try.ntmps24 rfl ?_
  focus
    refine xc_seq ?_
    refine xc_region ?_
    refine xo_rd (rd_assign rfl) rfl ?_
    refine xo_nil ?_
    refine xq_seq ?_
    refine xc_seq ?_
    refine xc_region ?_
    refine xo_rd (rd_move rfl) rfl ?_
    refine xo_ef rfl (ef_call rfl (XF.mono (xf_numbers x hx) ?_))
    rintro v L' ⟨qb, cb, lb, rfl, hqb, hcb, rfl⟩
    refine xo_rd (rd_len rfl) rfl ?_
    refine xo_rd (rd_assign rfl) rfl ?_
    refine xo_nil ?_
    refine xq_seq ?_
    refine xc_ret ?_
  refine xq_sub (L' := x.blks ++ L) (List.sublist_append_right _ _) ?_
  exact xq_ret1 (.inl rfl) Try.results24 rfl ⟨rfl, rfl⟩
theorem xf_new_bad {W : World} {L : List Blk} (size hold : Int) (hs : size < 1 ∨ 1024 < size) : XF Try.prog W 8 #[.int .i64 size, .int .u64 hold] L (fun v L' => v = .tuple #[.pointer none, .int .i64 2] ∧ L' = L) := by
  refine xf_enter (args := [_, _]) Try.func8 rfl Try.ntmps8 rfl ?_
  focus
    refine xc_seq ?_
    refine xc_region ?_
    refine xo_rd (rd_assign rfl) rfl ?_
    refine xo_rd (rd_assign rfl) rfl ?_
    refine xo_nil ?_
    refine xq_seq ?_
    refine xc_seq ?_
    refine xc_seq ?_
    refine xc_region ?_
    refine xo_rd (rd_move rfl) rfl ?_
    refine xo_rd (rd_lss rfl rfl) rfl ?_
    refine xo_rd (rd_move rfl) rfl ?_
    refine xo_dec 8 rfl (fun h1 => ?_) (fun h1 => ?_)
    refine xo_gskip rfl rfl rfl rfl ?_
    refine xo_gskip rfl rfl rfl rfl ?_
    refine xo_rd (rd_pickt rfl rfl) rfl ?_
    refine xo_nil ?_
    refine xq_seq ?_
    refine xc_condt rfl ?_
    refine xc_seq ?_
    refine xc_region ?_
    refine xo_rd (rd_assign rfl) rfl ?_
    refine xo_rd (rd_assign rfl) rfl ?_
    refine xo_nil ?_
    refine xq_seq ?_
    refine xc_ret ?_
    refine xq_then_ret ?_
    exact xq_ret2 (.inl rfl) Try.results8 rfl rfl (⟨rfl, rfl⟩)
    refine xo_grd rfl rfl (rd_move rfl) rfl ?_
    refine xo_grd rfl rfl (rd_gtr rfl rfl) rfl ?_
    refine xo_rd (rd_pickf rfl rfl) rfl ?_
    refine xo_nil ?_
    refine xq_seq ?_
    refine xc_dec rfl (fun h2 => ?_) (fun h2 => (by exfalso; omega))
    refine xc_seq ?_
    refine xc_region ?_
    refine xo_rd (rd_assign rfl) rfl ?_
    refine xo_rd (rd_assign rfl) rfl ?_
    refine xo_nil ?_
    refine xq_seq ?_
    refine xc_ret ?_
    refine xq_then_ret ?_
    exact xq_ret2 (.inl rfl) Try.results8 rfl rfl (⟨rfl, rfl⟩)
theorem xf_new {W : World} {L : List Blk} (size hold : Int) (hs : 1 ≤ size ∧ size ≤ 1024) (hh : 0 ≤ hold ∧ hold ≤ 18446744073709551615) : XF Try.prog W 8 #[.int .i64 size, .int .u64 hold] L (fun v L' => ∃ x : Ca, x.Ok ∧ v = .tuple #[.pointer (some ⟨x.c, 0, none⟩), .int .i64 0] ∧ x.st = ⟨size, hold, []⟩ ∧ L' = x.blks ++ L) := by
  refine xf_enter (args := [_, _]) Try.func8 rfl Try.ntmps8 rfl ?_
  focus
    refine xc_seq ?_
    refine xc_region ?_
    refine xo_rd (rd_assign rfl) rfl ?_
    refine xo_rd (rd_assign rfl) rfl ?_
    refine xo_nil ?_
    refine xq_seq ?_
    refine xc_seq ?_
    refine xc_seq ?_
    refine xc_region ?_
    refine xo_rd (rd_move rfl) rfl ?_
    refine xo_rd (rd_lss rfl rfl) rfl ?_
    refine xo_rd (rd_move rfl) rfl ?_
    refine xo_dec 8 rfl (fun h1 => (by exfalso; omega)) (fun h1 => ?_)
    refine xo_grd rfl rfl (rd_move rfl) rfl ?_
    refine xo_grd rfl rfl (rd_gtr rfl rfl) rfl ?_
    refine xo_rd (rd_pickf rfl rfl) rfl ?_
    refine xo_nil ?_
    refine xq_seq ?_
    refine xc_dec rfl (fun h2 => (by exfalso; omega)) (fun h2 => ?_)
    refine xc_skip ?_
    refine xq_seq ?_
    refine xc_seq ?_
    refine xc_region ?_
    refine xo_rd (rd_move rfl) rfl ?_
    refine xo_rd (rd_move rfl) rfl ?_
    refine xo_ef rfl (ef_makeMap fun r14 => ?_)
    refine xo_rd (rd_build rfl rfl rfl) rfl ?_
    refine xo_ef rfl (ef_box rfl fun r16 => ?_)
    refine xo_rd (rd_assign rfl) rfl ?_
    refine xo_rd (rd_assign rfl) rfl ?_
    refine xo_nil ?_
    refine xq_seq ?_
    refine xc_ret ?_
  refine xq_ret2 (.inl rfl) Try.results8 rfl rfl ⟨⟨size, hold, [], r16, .slice none 0 0, [], r14, .map #[] 0⟩, ⟨SlO.nil, MpIs.empty, List.nodup_nil, (fun _ h => by cases h), by simp, hs, hh⟩, rfl, rfl, rfl⟩
end Go.Proofs.Ytmjklmjdmocaiaa.X
