/-
  The library's functions over slices that the roster uses, by walks of my own.
-/
import Derived.Test.YtginfcoaaioaeaaA0
namespace Go.Proofs.Ytginfcoaaioaeaa.X
open Go Go.RowKit
set_option linter.unusedVariables false
set_option linter.unusedSimpArgs false
/-- slices.Clone: a row in new memory. -/
theorem xf_cloneM {W : World} {L : List Blk} (p : Option Addr) (m c : Nat) (xs : List Value) (hx : xs.length = m * 4) (hr : Rs W L p xs) (h1 : xs.all (·.oneCell') = true) (hm : m ≤ 1000000000) : XF Try.prog W 23 #[.slice p m c] L (fun v L' => ∃ q k l, v = .slice q m k ∧ SlO 4 31 (.slice q m k) m xs l ∧ m ≤ k ∧ L' = l ++ L) := by
  refine xf_enter (args := [_]) Try.func23 rfl Try.ntmps23 rfl ?_
  cases p with
  | none =>
    have h0 := hr.none_nil
    subst h0
    have hm0 : m = 0 := by simp at hx; omega
    subst hm0
    focus
      refine xc_seq ?_
      refine xc_region ?_
      refine xo_rd (rd_assign rfl) rfl ?_
      refine xo_nil ?_
      refine xq_seq ?_
      refine xc_seq ?_
      refine xc_seq ?_
      refine xc_region ?_
      refine xo_rd (rd_move rfl) rfl ?_
      refine xo_rd (rd_eqnilS rfl) rfl ?_
      refine xo_nil ?_
      refine xq_seq ?_
      refine xc_condt rfl ?_
      refine xc_seq ?_
      refine xc_region ?_
      refine xo_rd (rd_assign rfl) rfl ?_
      refine xo_nil ?_
      refine xq_seq ?_
      refine xc_ret ?_
      refine xq_then_ret ?_
    exact xq_ret1 (.inl rfl) Try.results23 rfl ⟨none, 0, [], rfl, SlO.nil, Nat.le_refl _, rfl⟩
  | some a =>
    focus
      refine xc_seq ?_
      refine xc_region ?_
      refine xo_rd (rd_assign rfl) rfl ?_
      refine xo_nil ?_
      refine xq_seq ?_
      refine xc_seq ?_
      refine xc_seq ?_
      refine xc_region ?_
      refine xo_rd (rd_move rfl) rfl ?_
      refine xo_rd (rd_eqnilS rfl) rfl ?_
      refine xo_nil ?_
      refine xq_seq ?_
      refine xc_condf rfl ?_
      refine xc_skip ?_
      refine xq_seq ?_
      refine xc_seq ?_
      refine xc_region ?_
      refine xo_ef rfl (ef_slice0 fun r5 => ?_)
      refine xo_rd (rd_move rfl) rfl ?_
    refine xo_ef rfl (ef_append [] L [_] rfl rfl SlO.zero rfl hr.skip hx h1 (by decide) (by omega) (by omega) fun v' l' hO => ?_)
    rw [Nat.zero_add, List.nil_append] at hO
    obtain ⟨q, k, rfl, hO, _⟩ := hO.opn
    focus
      refine xo_rd (rd_assign rfl) rfl ?_
      refine xo_nil ?_
      refine xq_seq ?_
      refine xc_ret ?_
    exact xq_ret1 (.inl rfl) Try.results23 rfl ⟨q, k, l', rfl, hO, hO.cap.2, rfl⟩
/-- slices.Delete: one element is taken out. -/
theorem xf_delete {W : World} {R : List Blk} (v : Value) (m i : Nat) (xs : List Value) (l : List Blk) (hO : SlO 4 31 v m xs l) (h1 : xs.all (·.oneCell') = true) (hi : i < m) (hm : m ≤ 1000000000) : XF Try.prog W 22 #[v, .int .i64 i, .int .i64 (i + 1)] (l ++ R) (fun v' L' => ∃ q k l', v' = .slice q (m - 1) k ∧ SlO 4 31 (.slice q (m - 1) k) (m - 1) (xs.take (i * 4) ++ xs.drop ((i + 1) * 4)) l' ∧ L' = l' ++ R) := by
  have hlen := hO.len
  obtain ⟨b, rest, cap, rfl, hcap, rfl⟩ := hO.cut (by omega)
  have hsz : (xs ++ rest).toArray.size = cap * 4 := by
    rcases hO with ⟨h, _⟩ | ⟨b', cs, cap', h, hl, _, hs, _⟩
    · cases h
    · simp only [Value.slice.injEq] at h
      simp only [List.cons.injEq, Prod.mk.injEq, Obj.cells.injEq, and_true] at hl
      rw [hl.2, h.2.2]; exact hs
  refine xf_enter (args := [_, _, _]) Try.func22 rfl Try.ntmps22 rfl ?_
  have hdl : (xs.drop ((i + 1) * 4)).length = (m - (i + 1)) * 4 := by rw [List.length_drop, hlen, Nat.sub_mul]
  have hd1 : (xs.drop ((i + 1) * 4)).all (·.oneCell') = true := List.all_eq_true.2 fun u hu => List.all_eq_true.1 h1 u (List.mem_of_mem_drop hu)
  have hrx : Rs W ((b, .cells (xs ++ rest).toArray 31 (0, 0)) :: R) (some ⟨b, 0, none⟩) xs := fun j u hj => ⟨b, 0, rfl, Cl.pre hj⟩
  have hsrc : Rs W ((b, .cells (xs ++ rest).toArray 31 (0, 0)) :: R) (if cap = i + 1 then some ⟨b, 0, none⟩ else some ⟨b, 0 + (i + 1) * 4, none⟩) (xs.drop ((i + 1) * 4)) := by
    split
    · rw [List.drop_of_length_le (by rw [hlen]; exact Nat.mul_le_mul_right _ (by omega))]; exact Rs.nil
    · exact hrx.drop _
  focus
    refine xc_seq ?_
    refine xc_region ?_
    refine xo_rd (rd_assign rfl) rfl ?_
    refine xo_nil ?_
    refine xq_seq ?_
    refine xc_seq ?_
    refine xc_region ?_
    refine xo_rd (rd_move rfl) rfl ?_
    refine xo_rd (rd_move rfl) rfl ?_
    refine xo_rd (rd_move rfl) rfl ?_
    refine xo_rd (rd_move rfl) rfl ?_
    refine xo_rd (rd_len rfl) rfl ?_
    refine xo_rd (rd_slice3v rfl rfl rfl rfl (by omega) (by omega) (by omega) (by omega)) rfl ?_
    refine xo_nil ?_
    refine xq_seq ?_
    refine xc_seq ?_
    refine xc_seq ?_
    refine xc_region ?_
    refine xo_rd (rd_move rfl) rfl ?_
    refine xo_rd (rd_move rfl) rfl ?_
    refine xo_rd (rd_eql rfl rfl) rfl ?_
    refine xo_nil ?_
    refine xq_seq ?_
    refine xc_dec rfl (fun h1 => (by exfalso; omega)) (fun h1 => ?_)
    refine xc_skip ?_
    refine xq_seq ?_
    refine xc_seq ?_
    refine xc_region ?_
    refine xo_rd (rd_move rfl) rfl ?_
    refine xo_rd (rd_len rfl) rfl ?_
    refine xo_rd (rd_assign rfl) rfl ?_
    refine xo_nil ?_
    refine xq_seq ?_
    refine xc_seq ?_
    refine xc_drawM [0, 0, 3, 0, 0, 24, 36, 127] [0, 0, 3, 0, 0, 24, 36, 127] [] (by kernel_rfl) (by kernel_rfl) (by kernel_rfl) ?_
    refine xm_take 0 (m' := 1) rfl (by kernel_rfl) (by first | exact Sb.refl | exact Sb.nil | (repeat (first | exact Sb.nil | exact Sb.refl | exact Sb.app0 | apply Sb.keep | apply Sb.keepApp | apply Sb.cons | apply Sb.app))) (rd_move rfl) rfl (by kernel_rfl) ?_
    refine xm_take 1 (m' := 3) rfl (by kernel_rfl) (by first | exact Sb.refl | exact Sb.nil | (repeat (first | exact Sb.nil | exact Sb.refl | exact Sb.app0 | apply Sb.keep | apply Sb.keepApp | apply Sb.cons | apply Sb.app))) (rd_move rfl) rfl (by kernel_rfl) ?_
    refine xm_take 2 (m' := 7) rfl (by kernel_rfl) (by first | exact Sb.refl | exact Sb.nil | (repeat (first | exact Sb.nil | exact Sb.refl | exact Sb.app0 | apply Sb.keep | apply Sb.keepApp | apply Sb.cons | apply Sb.app))) (rd_sliceHi rfl rfl (by omega) (by omega)) rfl (by kernel_rfl) ?_
    refine xm_take 3 (m' := 15) rfl (by kernel_rfl) (by first | exact Sb.refl | exact Sb.nil | (repeat (first | exact Sb.nil | exact Sb.refl | exact Sb.app0 | apply Sb.keep | apply Sb.keepApp | apply Sb.cons | apply Sb.app))) (rd_move rfl) rfl (by kernel_rfl) ?_
    refine xm_take 4 (m' := 31) rfl (by kernel_rfl) (by first | exact Sb.refl | exact Sb.nil | (repeat (first | exact Sb.nil | exact Sb.refl | exact Sb.app0 | apply Sb.keep | apply Sb.keepApp | apply Sb.cons | apply Sb.app))) (rd_move rfl) rfl (by kernel_rfl) ?_
    refine xm_take 5 (m' := 63) rfl (by kernel_rfl) (by first | exact Sb.refl | exact Sb.nil | (repeat (first | exact Sb.nil | exact Sb.refl | exact Sb.app0 | apply Sb.keep | apply Sb.keepApp | apply Sb.cons | apply Sb.app))) (rd_sliceEnd rfl rfl (by omega) (by omega)) rfl (by kernel_rfl) ?_
    refine xm_one 6 (m' := 127) rfl (by kernel_rfl) rfl (by kernel_rfl) (ef_appendRoom [] R rfl rfl rfl hsrc hdl hd1 (by omega) hsz (by decide) ?_)
    refine ⟨(by first | exact Sb.refl | exact Sb.nil | (repeat (first | exact Sb.nil | exact Sb.refl | exact Sb.app0 | apply Sb.keep | apply Sb.keepApp | apply Sb.cons | apply Sb.app))), ?_⟩
    refine xm_take 7 (m' := 255) rfl (by kernel_rfl) (by first | exact Sb.refl | exact Sb.nil | (repeat (first | exact Sb.nil | exact Sb.refl | exact Sb.app0 | apply Sb.keep | apply Sb.keepApp | apply Sb.cons | apply Sb.app))) (rd_assign rfl) rfl (by kernel_rfl) ?_
    refine xm_done (by kernel_rfl) ?_
    refine xq_seq ?_
    refine xc_seq ?_
    refine xc_region ?_
    refine xo_rd (rd_move rfl) rfl ?_
    refine xo_rd (rd_move rfl) rfl ?_
    refine xo_rd (rd_len rfl) rfl ?_
    refine xo_rd (rd_move rfl) rfl ?_
    refine xo_rd (rd_slice rfl rfl rfl (by omega) (by omega) (by omega) (by omega)) rfl ?_
  have hrm : i + (m - (i + 1)) = m - 1 := by omega
  have hrm' : (i : Int).toNat + (m - ((i : Int) + 1).toNat) = m - 1 := by omega
  have hi1 : (i : Int).toNat = i := by omega
  have htk : ((xs ++ rest).take ((i : Int).toNat * 4) ++ xs.drop ((i + 1) * 4)).length = (m - 1) * 4 := by
    rw [List.length_append, hdl, List.length_take, ← hrm, Nat.add_mul]
    simp only [List.length_append, hlen, hi1]
    rw [Nat.min_eq_left (by have : i * 4 ≤ m * 4 := Nat.mul_le_mul_right _ (by omega)
                            omega)]
  refine xo_ef rfl (ef_clear [] R rfl rfl (by omega) (by simp only [List.size_toArray, List.length_append, List.length_drop, List.length_take] at *; omega) (by simp [Value.cells, Value.oneCell']) fun cs' hcs hcs2 => ?_)
  focus
    refine xo_nil ?_
    refine xq_seq ?_
    refine xc_seq ?_
    refine xc_region ?_
    refine xo_rd (rd_move rfl) rfl ?_
    refine xo_rd (rd_assign rfl) rfl ?_
    refine xo_nil ?_
    refine xq_seq ?_
    refine xc_ret ?_
  refine xq_ret1 (.inl rfl) Try.results22 rfl ⟨some ⟨b, 0, none⟩, cap, [(b, .cells cs' 31 (0, 0))], by rw [hrm'], .inr ⟨b, cs', cap, rfl, rfl, by omega, ?_, ?_⟩, rfl⟩
  · rw [hcs]; simp only [List.size_toArray, List.length_append, List.length_drop, List.length_take] at *; omega
  · have hz : 0 + (((((i : Int).toNat + (m - ((i : Int) + 1).toNat) : Nat)) : Int)).toNat * 4 = (m - 1) * 4 := by omega
    rw [hz] at hcs2
    rw [hcs2]
    simp only [List.append_assoc]
    rw [← List.append_assoc, List.take_left' htk, hi1, List.take_append_of_le_length (by rw [hlen]; exact Nat.mul_le_mul_right _ (by omega))]
theorem xf_byId {W : World} {L : List Blk} (m : Mb) (q : Nat) (id : Int) (hq : Cl W L q 0 (.int .i64 id)) : XF Try.prog W 27 #[.agg m.enc.toArray, .pointer (some ⟨q, 0, none⟩)] L (fun v L' => v = .bool (decide (m.id = id)) ∧ L' = L) := by
  refine xf_enter (args := [_, _]) Try.func27 rfl Try.ntmps27 rfl ?_
  focus
    refine xc_seq ?_
    refine xc_region ?_
    refine xo_ef rfl (ef_box rfl fun r2 => ?_)
    refine xo_rd (rd_assign rfl) rfl ?_
    refine xo_nil ?_
    refine xq_seq ?_
    refine xc_seq ?_
    refine xc_region ?_
    refine xo_rd (rd_fieldAddr rfl) rfl ?_
    refine xo_rd (rd_load1 rfl (Cl.o0 rfl)) rfl ?_
    refine xo_rd (rd_load1 rfl hq.skip) rfl ?_
    refine xo_rd (rd_eql rfl rfl) rfl ?_
    refine xo_rd (rd_assign rfl) rfl ?_
    refine xo_nil ?_
    refine xq_seq ?_
    refine xc_ret ?_
    exact xq_tail (xq_ret1 (.inl rfl) Try.results27 rfl (⟨rfl, rfl⟩))
theorem xf_indexId {W : World} {L : List Blk} (p : Option Addr) (n c : Nat) (ms : List Mb) (q : Nat) (id : Int) (hn : ms.length = n) (hr : Rs W L p (ms.flatMap Mb.enc)) (hq : Cl W L q 0 (.int .i64 id)) (hm : n ≤ 1000000) : XF Try.prog W 26 #[.slice p n c, .func (.func 27) #[] #[.pointer (some ⟨q, 0, none⟩)]] L (fun v L' => v = .int .i64 (ixOf (ms.map Mb.id) id) ∧ L' = L) := by
  refine xf_enter (args := [_, _]) Try.func26 rfl Try.ntmps26 rfl ?_
  focus
    refine xc_seq ?_
    refine xc_region ?_
    refine xo_rd (rd_assign rfl) rfl ?_
    refine xo_nil ?_
    refine xq_seq ?_
    refine xc_seq ?_
    refine xc_seq ?_
    refine xc_region ?_
    refine xo_rd (rd_move rfl) rfl ?_
    refine xo_rd (rd_len rfl) rfl ?_
    refine xo_rd (rd_move rfl) rfl ?_
    refine xo_nil ?_
    refine xq_seq ?_
    refine xc_block ?_
  refine xc_loopI (ι := Nat) (fun k => k ≤ n ∧ ∀ i, (hi : i < k) → (h2 : i < ms.length) → ms[i].id ≠ id) (fun k => n - k) (fun _ => L) (fun k => [(0, .slice p n c), (1, .func (.func 27) #[] #[.pointer (some ⟨q, 0, none⟩)]), (7, .int .i64 n), (8, .int .i64 k)]) 0 ⟨Nat.zero_le _, fun i hi => by omega⟩ rfl (by repeat (first | exact keep_nil | refine keep_cons rfl ?_)) ?_
  rintro k ⟨hk, hno⟩
  focus
    refine xc_seq ?_
    refine xc_region ?_
    refine xo_rd (rd_lss rfl rfl) rfl ?_
    refine xo_nil ?_
    refine xq_seq ?_
    refine xc_seq ?_
    refine xc_dec rfl (fun hk1 => ?_) (fun hk1 => ?_)
    refine xc_skip ?_
    refine xq_seq ?_
    refine xc_seq ?_
    refine xc_block ?_
    refine xc_seq ?_
    refine xc_region ?_
    refine xo_rd (rd_move rfl) rfl ?_
    refine xo_rd (rd_assign rfl) rfl ?_
    refine xo_nil ?_
    refine xq_seq ?_
    refine xc_seq ?_
    refine xc_region ?_
    refine xo_rd (rd_move rfl) rfl ?_
    refine xo_rd (rd_move rfl) rfl ?_
    refine xo_rd (rd_move rfl) rfl ?_
    rotate_left
    refine xc_exit ?_
    refine xq_then_exit ?_
    refine xq_then_exit ?_
    refine xq_block_hit ?_
    refine xq_seq ?_
    refine xc_seq ?_
    refine xc_region ?_
    refine xo_rd (rd_assign rfl) rfl ?_
    refine xo_nil ?_
    refine xq_seq ?_
    refine xc_ret ?_
    rotate_left
  · have hkn : k < ms.length := by omega
    obtain ⟨b, o, rfl, hc⟩ := hr.row Mb.len (by decide) hkn
    focus
      refine xo_rd (rd_indexAddr rfl rfl (by omega) (by omega)) rfl ?_
      refine xo_rd (rd_loadA (vs := ms[k].enc) rfl rfl hc) rfl ?_
      refine xo_ef rfl (ef_callv rfl rfl (XF.mono (xf_byId ms[k] q id hq) ?_))
      rintro v L' ⟨rfl, rfl⟩
      refine xo_nil ?_
      refine xq_seq ?_
      refine xc_dec rfl (fun hz1 => ?_) (fun hz1 => ?_)
      refine xc_seq ?_
      refine xc_region ?_
      refine xo_rd (rd_move rfl) rfl ?_
      refine xo_rd (rd_assign rfl) rfl ?_
      refine xo_nil ?_
      refine xq_seq ?_
      refine xc_ret ?_
      refine xq_block_ret ?_
      refine xq_then_ret ?_
      refine xq_then_ret ?_
      refine xq_block_ret ?_
      refine xq_then_ret ?_
      rotate_left
      refine xc_skip ?_
      refine xq_block ?_
      refine xq_seq ?_
      refine xc_region ?_
      refine xo_rd (rd_addn rfl rfl (by omega) (by omega)) rfl ?_
      refine xo_rd (rd_move rfl) rfl ?_
      refine xo_nil ?_
      rotate_left
    · refine xq_ret1 (.inl rfl) Try.results26 rfl ⟨?_, rfl⟩
      rw [ixOf_some (k := k) (by simpa using hkn) (by simpa using hz1) (fun i hi => by simpa using hno i hi (by omega))]
    · refine xq_roundI (k + 1) ⟨by omega, fun i hi h2 => ?_⟩ (by omega) rfl (by repeat (first | exact keep_nil | refine keep_cons rfl ?_))
      by_cases he : i = k
      · subst he; exact hz1
      · exact hno i (by omega) h2
  · refine xq_ret1 (.inl rfl) Try.results26 rfl ⟨?_, rfl⟩
    rw [ixOf_none (fun i hi => by simpa using hno i (by simp at hi; omega) (by simpa using hi))]
end Go.Proofs.Ytginfcoaaioaeaa.X
