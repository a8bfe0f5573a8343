/-
  Texts of my own, put together: walks and laws for this seat. No condition.
-/
import Derived.Test.YtpheiklhjelkcaaV7
/-
  Chapter 19: what waits, in short: walks of my own.
-/
namespace Go.Proofs.Ytpheiklhjelkcaa.X
open Go Go.RowKit
set_option linter.unusedVariables false
set_option linter.unusedSimpArgs false
/-- easelkit's SameBytes (and its like): are two rows the same? -/
theorem xf_sameI {W : World} {L : List Blk} (p q : Option Addr) (m m' c c' : Nat) (xs ys : List Int) (hx : xs.length = m) (hy : ys.length = m') (hr : Rs W L p (ints .i64 xs)) (hs : Rs W L q (ints .i64 ys)) (hm : m ≤ 1000000000) : XF Try.prog W 46 #[.slice p m c, .slice q m' c'] L (fun v L' => v = .bool (decide (xs = ys)) ∧ L' = L) := by
  refine xf_enter (args := [_, _]) Try.func46 rfl Try.ntmps46 rfl ?_
  focus
    refine xc_seq ?_
    refine xc_region ?_
    refine xo_rd (rd_assign rfl) rfl ?_
    refine xo_nil ?_
    refine xq_seq ?_
    refine xc_seq ?_
    refine xc_seq ?_
    refine xc_region ?_
    refine xo_rd (rd_move rfl) rfl ?_
    refine xo_rd (rd_len rfl) rfl ?_
    refine xo_rd (rd_move rfl) rfl ?_
    refine xo_rd (rd_len rfl) rfl ?_
    refine xo_rd (rd_neq rfl rfl) rfl ?_
    refine xo_nil ?_
    refine xq_seq ?_
    refine xc_ndec rfl (fun h1 => ?_) (fun h1 => ?_)
    refine xc_seq ?_
    refine xc_region ?_
    refine xo_rd (rd_assign rfl) rfl ?_
    refine xo_nil ?_
    refine xq_seq ?_
    refine xc_ret ?_
    refine xq_then_ret ?_
    rotate_left
    refine xc_skip ?_
    refine xq_seq ?_
    refine xc_seq ?_
    refine xc_seq ?_
    refine xc_region ?_
    refine xo_rd (rd_assign rfl) rfl ?_
    refine xo_nil ?_
    refine xq_seq ?_
    refine xc_block ?_
    rotate_left
  · refine xq_ret1 (.inl rfl) Try.results46 rfl ⟨?_, rfl⟩
    rw [decide_eq_false (fun e => by subst e; omega)]
  · have hmm : m' = m := by omega
    subst hmm
    refine xc_loopI (ι := Nat) (fun k => k ≤ m' ∧ xs.take k = ys.take k) (fun k => m' - k) (fun _ => L) (fun k => [(0, .slice p m' c), (1, .slice q m' c'), (5, .int .i64 k)]) 0 ⟨Nat.zero_le _, by simp⟩ rfl (by repeat (first | exact keep_nil | refine keep_cons rfl ?_)) ?_
    rintro k ⟨hk, he⟩
    focus
      refine xc_seq ?_
      refine xc_seq ?_
      refine xc_region ?_
      refine xo_rd (rd_move rfl) rfl ?_
      refine xo_rd (rd_move rfl) rfl ?_
      refine xo_rd (rd_len rfl) rfl ?_
      refine xo_rd (rd_lss rfl rfl) rfl ?_
      refine xo_nil ?_
      refine xq_seq ?_
      refine xc_dec rfl (fun hk1 => ?_) (fun hk1 => ?_)
      refine xc_skip ?_
      refine xq_seq ?_
      refine xc_seq ?_
      refine xc_block ?_
      refine xc_seq ?_
      refine xc_drawML [0, 0, 3, 4, 0, 0, 48, 64, 136] [0, 0, 3, 4, 0, 0, 48, 64, 136] (by kernel_rfl) (by kernel_rfl) (by kernel_rfl) ?_
      refine xm_take 0 (m' := 1) rfl (by kernel_rfl) (by first | exact Sb.refl | exact Sb.nil | (repeat (first | exact Sb.nil | exact Sb.refl | exact Sb.app0 | apply Sb.keep | apply Sb.keepApp | apply Sb.cons | apply Sb.app))) (rd_move rfl) rfl (by kernel_rfl) ?_
      refine xm_take 1 (m' := 3) rfl (by kernel_rfl) (by first | exact Sb.refl | exact Sb.nil | (repeat (first | exact Sb.nil | exact Sb.refl | exact Sb.app0 | apply Sb.keep | apply Sb.keepApp | apply Sb.cons | apply Sb.app))) (rd_move rfl) rfl (by kernel_rfl) ?_
      refine xm_take 4 (m' := 19) rfl (by kernel_rfl) (by first | exact Sb.refl | exact Sb.nil | (repeat (first | exact Sb.nil | exact Sb.refl | exact Sb.app0 | apply Sb.keep | apply Sb.keepApp | apply Sb.cons | apply Sb.app))) (rd_move rfl) rfl (by kernel_rfl) ?_
      refine xm_take 5 (m' := 51) rfl (by kernel_rfl) (by first | exact Sb.refl | exact Sb.nil | (repeat (first | exact Sb.nil | exact Sb.refl | exact Sb.app0 | apply Sb.keep | apply Sb.keepApp | apply Sb.cons | apply Sb.app))) (rd_move rfl) rfl (by kernel_rfl) ?_
      rotate_left
      refine xc_exit ?_
      refine xq_then_exit ?_
      refine xq_then_exit ?_
      refine xq_block_hit ?_
      refine xq_seq ?_
      refine xc_seq ?_
      refine xc_region ?_
      refine xo_rd (rd_assign rfl) rfl ?_
      refine xo_nil ?_
      refine xq_seq ?_
      refine xc_ret ?_
      rotate_left
    · obtain ⟨b, o, hp, hc⟩ := hr.int (i := k) (by omega)
      obtain ⟨b', o', hp', hc'⟩ := hs.int (i := k) (by omega)
      subst hp hp'
      focus
        refine xm_take 2 (m' := 55) rfl (by kernel_rfl) (by first | exact Sb.refl | exact Sb.nil | (repeat (first | exact Sb.nil | exact Sb.refl | exact Sb.app0 | apply Sb.keep | apply Sb.keepApp | apply Sb.cons | apply Sb.app))) (rd_indexAddr rfl rfl (by omega) (by omega)) rfl (by kernel_rfl) ?_
        refine xm_take 3 (m' := 63) rfl (by kernel_rfl) (by first | exact Sb.refl | exact Sb.nil | (repeat (first | exact Sb.nil | exact Sb.refl | exact Sb.app0 | apply Sb.keep | apply Sb.keepApp | apply Sb.cons | apply Sb.app))) (rd_load1 rfl hc) rfl (by kernel_rfl) ?_
        refine xm_take 6 (m' := 127) rfl (by kernel_rfl) (by first | exact Sb.refl | exact Sb.nil | (repeat (first | exact Sb.nil | exact Sb.refl | exact Sb.app0 | apply Sb.keep | apply Sb.keepApp | apply Sb.cons | apply Sb.app))) (rd_indexAddr rfl rfl (by omega) (by omega)) rfl (by kernel_rfl) ?_
        refine xm_take 7 (m' := 255) rfl (by kernel_rfl) (by first | exact Sb.refl | exact Sb.nil | (repeat (first | exact Sb.nil | exact Sb.refl | exact Sb.app0 | apply Sb.keep | apply Sb.keepApp | apply Sb.cons | apply Sb.app))) (rd_load1 rfl hc') rfl (by kernel_rfl) ?_
        refine xm_take 8 (m' := 511) rfl (by kernel_rfl) (by first | exact Sb.refl | exact Sb.nil | (repeat (first | exact Sb.nil | exact Sb.refl | exact Sb.app0 | apply Sb.keep | apply Sb.keepApp | apply Sb.cons | apply Sb.app))) (rd_neq rfl rfl) rfl (by kernel_rfl) ?_
        refine xm_done (by kernel_rfl) ?_
        refine xq_seq ?_
        refine xc_ndec rfl (fun hq1 => ?_) (fun hq1 => ?_)
        refine xc_seq ?_
        refine xc_region ?_
        refine xo_rd (rd_assign rfl) rfl ?_
        refine xo_nil ?_
        refine xq_seq ?_
        refine xc_ret ?_
        refine xq_block_ret ?_
        refine xq_then_ret ?_
        refine xq_then_ret ?_
        refine xq_block_ret ?_
        refine xq_then_ret ?_
        rotate_left
        refine xc_skip ?_
        refine xq_block ?_
        refine xq_seq ?_
        refine xc_region ?_
        refine xo_rd (rd_move rfl) rfl ?_
        refine xo_rd (rd_addn rfl rfl (by omega) (by omega)) rfl ?_
        refine xo_rd (rd_assign rfl) rfl ?_
        refine xo_nil ?_
        rotate_left
      · refine xq_ret1 (.inl rfl) Try.results46 rfl ⟨?_, rfl⟩
        rw [decide_eq_false (fun e => by subst e; exact hq1 rfl)]
      · refine xq_roundI (k + 1) ⟨by omega, ?_⟩ (by omega) rfl (by repeat (first | exact keep_nil | refine keep_cons rfl ?_))
        rw [List.take_add_one, List.take_add_one, he, List.getElem?_eq_getElem (by omega), List.getElem?_eq_getElem (by omega), hq1]
    · have hkm : k = m' := by omega
      subst hkm
      refine xq_ret1 (.inl rfl) Try.results46 rfl ⟨?_, rfl⟩
      rw [List.take_of_length_le (by omega), List.take_of_length_le (by omega)] at he
      rw [decide_eq_true he]
theorem xf_sameIT {W : World} {L : List Blk} (p q : Option Addr) (m m' c c' : Nat) (xs ys : List Int) (he : xs = ys) (hx : xs.length = m) (hy : ys.length = m') (hr : Rs W L p (ints .i64 xs)) (hs : Rs W L q (ints .i64 ys)) (hm : m ≤ 1000000000) : XF Try.prog W 46 #[.slice p m c, .slice q m' c'] L (fun v L' => v = .bool true ∧ L' = L) :=
  (xf_sameI p q m m' c c' xs ys hx hy hr hs hm).mono fun v L' h => ⟨h.1.trans (by rw [decide_eq_true he]), h.2⟩
def waitsA (l : List Ea) : List Int := l.map fun e => if e.lo = true then -1 else e.f.i.pic
theorem waitsA_take (l : List Ea) (k : Nat) (h : k < l.length) : waitsA (l.take (k + 1)) = waitsA (l.take k) ++ [if (l[k]).lo = true then -1 else (l[k]).f.i.pic] := by
  unfold waitsA; rw [List.take_add_one, List.getElem?_eq_getElem h, List.map_append]; rfl
/-- The state of waits. -/
structure WaS where
  i : Nat
  q : Option Addr
  k : Nat
  l : List Blk
set_option maxHeartbeats 800000 in
theorem xf_waits {W : World} {L : List Blk} (x : Qs) (hx : QR W L x) (hat : ∀ e, e ∈ x.es → e.i.f.At W L) (hf : ∀ e, e ∈ x.es → e.i.f.Few) (hn : x.es.length ≤ 1000000) (hpic : ∀ e, e ∈ x.es → 0 ≤ e.i.f.i.pic ∧ e.i.f.i.pic ≤ 65535) :
    XF Try.prog W 47 #[.pointer (some ⟨x.r, 0, none⟩)] L (fun v L' => ∃ (q : Option Addr) (k : Nat) (N : List Blk), v = .slice q x.es.length k ∧ Rs W (N ++ L) q (ints .i64 (waitsA x.a)) ∧ L' = N ++ L) := by
  refine xf_enter (args := [_]) Try.func47 rfl Try.ntmps47 rfl ?_
  focus
    refine xc_seq ?_
    refine xc_region ?_
    refine xo_rd (rd_assign rfl) rfl ?_
    refine xo_nil ?_
    refine xq_seq ?_
    refine xc_seq ?_
    refine xc_region ?_
    refine xo_rd (rd_assign rfl) rfl ?_
    refine xo_nil ?_
    refine xq_seq ?_
    refine xc_seq ?_
    refine xc_region ?_
    refine xo_rd (rd_move rfl) rfl ?_
    refine xo_ef rfl (ef_call rfl (XF.mono (xf_All x hx hat hf hn) ?_))
    rintro v L' ⟨ys, qa, ka, la, rfl, hya, hyo, hsa, rfl⟩
    refine xo_rd (rd_assign rfl) rfl ?_
    refine xo_nil ?_
    refine xq_seq ?_
    refine xc_seq ?_
    refine xc_seq ?_
    refine xc_region ?_
    refine xo_rd (rd_assign rfl) rfl ?_
    refine xo_nil ?_
    refine xq_seq ?_
    refine xc_block ?_
  have hyl : ys.length = x.es.length := by have := congrArg List.length hya; rw [List.length_map, x.len_a] at this; exact this
  have hwl : (waitsA x.a).length = x.es.length := by unfold waitsA; rw [List.length_map, x.len_a]
  have hpy : ∀ e, e ∈ ys → 0 ≤ e.i.f.i.pic ∧ e.i.f.i.pic ≤ 65535 := fun e he => by
    have : e.a ∈ x.a := hya ▸ List.mem_map.2 ⟨e, he, rfl⟩
    obtain ⟨u, hu, hue⟩ := List.mem_map.1 this
    have h1 := hpic u hu
    rwa [show u.i.f.i = e.i.f.i from congrArg (fun z : Ea => z.f.i) hue] at h1
  rw [← hya]
  refine xc_loopI (ι := WaS) (fun s => s.i ≤ ys.length ∧ SlQ 1 3 (.slice s.q s.i s.k) s.i (ints .i64 (waitsA ((ys.map En.a).take s.i))) s.l) (fun s => ys.length - s.i) (fun s => s.l ++ (la ++ (ebl ys ++ L))) (fun s => [(3, .slice s.q s.i s.k), (4, .slice qa ys.length ka), (5, .int .i64 s.i)]) ⟨0, none, 0, []⟩ ⟨Nat.zero_le _, SlQ.nil⟩ rfl (by repeat (first | exact keep_nil | refine keep_cons rfl ?_)) ?_
  rintro ⟨i, q, k, l⟩ ⟨hi, hsl⟩
  dsimp only at hi hsl ⊢
  by_cases hin : i < ys.length
  · have hR : Rs W (l ++ (la ++ (ebl ys ++ L))) qa (ys.flatMap En.enc) := hsa.rs (by intro z hz; simp [hz])
    obtain ⟨b, o, hq, hc⟩ := el_of hR hin
    subst hq
    have c2 := hc i hin 2 _ rfl
    have c9 := hc i hin 9 _ rfl
    have ht := waitsA_take (ys.map En.a) i (by rw [List.length_map]; exact hin)
    rw [List.getElem_map] at ht
    have hpi := hpy ys[i] (List.getElem_mem _)
    generalize ys[i] = e at *
    focus
      refine xc_seq ?_
      refine xc_seq ?_
      refine xc_region ?_
      refine xo_rd (rd_move rfl) rfl ?_
      refine xo_rd (rd_move rfl) rfl ?_
      refine xo_rd (rd_len rfl) rfl ?_
      refine xo_rd (rd_lss rfl rfl) rfl ?_
      refine xo_nil ?_
      refine xq_seq ?_
      refine xc_dec rfl (fun hz1 => ?_) (fun hz1 => (by exfalso; omega))
      refine xc_skip ?_
      refine xq_seq ?_
      refine xc_seq ?_
      refine xc_block ?_
      refine xc_seq ?_
      refine xc_region ?_
      refine xo_rd (rd_move rfl) rfl ?_
      refine xo_rd (rd_move rfl) rfl ?_
      refine xo_rd (rd_indexAddr rfl rfl (by omega) (by omega)) rfl ?_
      refine xo_rd (rd_fieldAddr rfl) rfl ?_
      refine xo_rd (rd_fieldAddr rfl) rfl ?_
      refine xo_rd (rd_load1 rfl c2) rfl ?_
      refine xo_nil ?_
      refine xq_seq ?_
      refine xc_cond rfl (fun hz2 => ?_) (fun hz2 => ?_)
      refine xc_region ?_
      refine xo_rd (rd_move rfl) rfl ?_
      refine xo_ef rfl (ef_slice1 rfl rfl rfl fun r21 => ?_)
      rotate_left
      refine xc_region ?_
      refine xo_rd (rd_move rfl) rfl ?_
      refine xo_rd (rd_move rfl) rfl ?_
      refine xo_rd (rd_move rfl) rfl ?_
      refine xo_rd (rd_indexAddr rfl rfl (by omega) (by omega)) rfl ?_
      refine xo_rd (rd_fieldAddr rfl) rfl ?_
      refine xo_rd (rd_fieldAddr rfl) rfl ?_
      refine xo_rd (rd_fieldAddr rfl) rfl ?_
      refine xo_rd (rd_fieldAddr rfl) rfl ?_
      refine xo_rd (rd_load1 rfl c9) rfl ?_
      refine xo_rd (rd_convn rfl (by omega) (by omega)) rfl ?_
      refine xo_ef rfl (ef_slice1 rfl rfl rfl fun r33 => ?_)
      rotate_left
    · refine xo_ef rfl (ef_appendQS [_] (la ++ (ebl ys ++ L)) l (news := [.int .i64 (-1)]) rfl rfl hsl rfl (Rs.fresh (vs := [.int .i64 (-1)]) (List.Mem.head _)) rfl rfl (by decide) (by omega) (by omega) fun q2 k2 l2 hO2 hk2 => ?_)
      focus
        refine xo_rd (rd_assign rfl) rfl ?_
        refine xo_nil ?_
        refine xq_block ?_
        refine xq_seq ?_
        refine xc_region ?_
        refine xo_rd (rd_move rfl) rfl ?_
        refine xo_rd (rd_addn rfl rfl (by omega) (by omega)) rfl ?_
        refine xo_rd (rd_assign rfl) rfl ?_
        refine xo_nil ?_
      refine xq_tail (xq_roundI (⟨i + 1, q2, k2, l2⟩ : WaS) ⟨by dsimp only; omega, ?_⟩ (by dsimp only; omega) rfl (by repeat (first | exact keep_nil | refine keep_cons rfl ?_)))
      dsimp only
      have hlo : e.a.lo = true := by exact hz2
      rw [ht, hlo, ints_app]
      exact hO2
    · refine xo_ef rfl (ef_appendQS [_] (la ++ (ebl ys ++ L)) l (news := [.int .i64 e.i.f.i.pic]) rfl rfl hsl rfl (Rs.fresh (vs := [.int .i64 e.i.f.i.pic]) (List.Mem.head _)) rfl rfl (by decide) (by omega) (by omega) fun q2 k2 l2 hO2 hk2 => ?_)
      focus
        refine xo_rd (rd_assign rfl) rfl ?_
        refine xo_nil ?_
        refine xq_block ?_
        refine xq_seq ?_
        refine xc_region ?_
        refine xo_rd (rd_move rfl) rfl ?_
        refine xo_rd (rd_addn rfl rfl (by omega) (by omega)) rfl ?_
        refine xo_rd (rd_assign rfl) rfl ?_
        refine xo_nil ?_
      refine xq_tail (xq_roundI (⟨i + 1, q2, k2, l2⟩ : WaS) ⟨by dsimp only; omega, ?_⟩ (by dsimp only; omega) rfl (by repeat (first | exact keep_nil | refine keep_cons rfl ?_)))
      dsimp only
      have hlo : e.a.lo = false := by exact hz2
      rw [ht, hlo, ints_app]
      exact hO2
  · skip
    focus
      refine xc_seq ?_
      refine xc_seq ?_
      refine xc_region ?_
      refine xo_rd (rd_move rfl) rfl ?_
      refine xo_rd (rd_move rfl) rfl ?_
      refine xo_rd (rd_len rfl) rfl ?_
      refine xo_rd (rd_lss rfl rfl) rfl ?_
      refine xo_nil ?_
      refine xq_seq ?_
      refine xc_dec rfl (fun h1 => (by exfalso; omega)) (fun h1 => ?_)
      refine xc_exit ?_
      refine xq_then_exit ?_
      refine xq_then_exit ?_
      refine xq_block_hit ?_
      refine xq_seq ?_
      refine xc_seq ?_
      refine xc_region ?_
      refine xo_rd (rd_move rfl) rfl ?_
      refine xo_rd (rd_assign rfl) rfl ?_
      refine xo_nil ?_
      refine xq_seq ?_
      refine xc_ret ?_
    have hiN : i = ys.length := by omega
    subst hiN
    rw [List.take_of_length_le (by rw [List.length_map]; omega)] at hsl
    rw [hyl] at hsl ⊢
    refine xq_ret1 (.inl rfl) Try.results47 rfl ⟨q, k, l ++ (la ++ ebl ys), rfl, ?_, ?_⟩
    · rw [List.append_assoc, List.append_assoc]; exact hsl.rsl
    · rw [List.append_assoc, List.append_assoc]
end Go.Proofs.Ytpheiklhjelkcaa.X
/-
  Chapter 19: the chapter's short examples: a walk of my own.
-/
namespace Go.Proofs.Ytpheiklhjelkcaa.X
open Go Go.RowKit
set_option linter.unusedVariables false
set_option linter.unusedSimpArgs false
theorem xf_PutE {W : World} {M : List Blk} (r : Nat) (most : Int) (ca bg : Bool) (es : List En) (p : Option Addr) (c : Nat) (l : List Blk) (hx : (Qs.mk r most ca bg es p c l).Ok W M) (pv : Option Addr) (nv cv : Nat) (xs : List En) (hv : Rs W M pv (xs.flatMap En.enc)) (hvl : xs.length = nv) (hat : ∀ e, e ∈ xs → e.i.f.At W M) (hf : ∀ e, e ∈ xs → e.i.f.Few) (hlen : es.length + nv + 1 ≤ 1000000)
    (la xa lr : List Ea) (cnt : Nat) (hla : es.map En.a = la) (hxa : xs.map En.a = xa) (hres : putsA most ca bg la xa = (lr, cnt)) :
    XF Try.prog W 22 #[.pointer (some ⟨r, 0, none⟩), .slice pv nv cv] ((r, .cells (qcl most ca bg p es.length c).toArray 108 (0, 0)) :: (l ++ M)) (fun v L' => ∃ es' p c l N, v = .int .i64 cnt ∧ L' = (r, .cells (qcl most ca bg p es'.length c).toArray 108 (0, 0)) :: (l ++ (N ++ M)) ∧ (Qs.mk r most ca bg es' p c l).Ok W (N ++ M) ∧ es'.map En.a = lr) := by
  subst hla hxa
  have h := xf_Put (W := W) (M := M) (M0 := M) r most ca bg es p c l hx pv nv cv xs hv hvl hat hf hlen
  rw [hres] at h
  exact h
theorem xf_NewE {W : World} {L : List Blk} (b : Int) (ca : Bool) (hb : 1 ≤ b ∧ b ≤ 256) : XF Try.prog W 10 #[.int .i64 b, .bool ca] L (fun v L' => ∃ r, v = .tuple #[.pointer (some ⟨r, 0, none⟩), .int .i64 0] ∧ L' = (r, .cells (qcl b ca false none 0 0).toArray 108 (0, 0)) :: L) :=
  (xf_New b ca hb).mono fun v L' ⟨r, hv, hL⟩ => ⟨r, hv, hL⟩
theorem perm_w1 (a b : Blk) (R : List Blk) : (a :: b :: R).Perm (b :: ([] ++ (a :: R))) := (by classical exact List.perm_iff_count.2 fun a => by simp only [List.append_eq, List.count_append, List.count_cons, List.count_nil, List.cons_append, List.nil_append, List.flatMap_append, List.flatMap_cons, List.flatMap_nil, List.append_nil]; omega)
theorem perm_w2 (a b : Blk) (x y l R : List Blk) : (a :: b :: (x ++ (y ++ (l ++ R)))).Perm (b :: (l ++ (a :: (x ++ (y ++ R))))) := (by classical exact List.perm_iff_count.2 fun a => by simp only [List.append_eq, List.count_append, List.count_cons, List.count_nil, List.cons_append, List.nil_append, List.flatMap_append, List.flatMap_cons, List.flatMap_nil, List.append_nil]; omega)
def wKey (i : Nat) : Bool := decide ((i : Int) = 2)
def wBg (i : Nat) : Bool := decide ((i : Int) = 3)
def wKey2 (i : Nat) : Bool := decide ((i : Int) = 1) || decide ((i : Int) = 3)
def wWant (i : Nat) : List Int := if i < 2 then [-1, 2, 3] else [1, 2, -1]
def wRes (i : Nat) : List Ea := (putsA 2 true (wBg i) [madeE (wKey i) 1 1] [madeE (wKey2 i) 2 1, madeE false 3 1]).1
theorem w_1 : ∀ i : Nat, i < 4 → putsA 2 true false [] [madeE (wKey i) 1 1] = ([madeE (wKey i) 1 1], 0) := by decide
theorem w_2 : ∀ i : Nat, i < 4 → putsA 2 true (wBg i) [madeE (wKey i) 1 1] [madeE (wKey2 i) 2 1, madeE false 3 1] = (wRes i, 1) := by decide
theorem w_3 : ∀ i : Nat, i < 4 → waitsA (wRes i) = wWant i := by decide
theorem w_4 : ∀ i : Nat, i < 4 → ∀ e, e ∈ wRes i → 0 ≤ e.f.i.pic ∧ e.f.i.pic ≤ 65535 := by decide
theorem w_5 : ∀ i : Nat, i < 4 → freshA [madeE (wKey i) 1 1] false 0 = true := by decide
theorem rs_1 {W : World} {L : List Blk} {r T : Nat} {y : En} (h : (r, Obj.cells y.enc.toArray T (0, 0)) ∈ L) : Rs W L (some ⟨r, 0, none⟩) ([y].flatMap En.enc) := by
  rw [List.flatMap_singleton]; exact Rs.fresh (vs := y.enc) h
theorem rs_2 {W : World} {L : List Blk} {r T : Nat} {y z : En} (h : (r, Obj.cells (y.enc ++ z.enc).toArray T (0, 0)) ∈ L) : Rs W L (some ⟨r, 0, none⟩) ([y, z].flatMap En.enc) := by
  rw [List.flatMap_cons, List.flatMap_singleton]; exact Rs.fresh (vs := y.enc ++ z.enc) h
theorem at_2 {W : World} {L : List Blk} {q : Blk} {y z : En} (hy : y.i.f.Ok 116) (hz : z.i.f.Ok 116) : ∀ e, e ∈ [y, z] → e.i.f.At W (q :: (z.i.f.bl ++ (y.i.f.bl ++ L))) := fun e he => by
  rcases List.mem_cons.1 he with h | h
  · rw [h]; exact hy.at.app.skip
  · rw [List.mem_singleton.1 h]; exact hz.at.skip
theorem few_2 {y z : En} {k k2 : Bool} {n n2 g g2 : Int} (hy : y.a = madeE k n g) (hz : z.a = madeE k2 n2 g2) : ∀ e, e ∈ [y, z] → e.i.f.Few := fun e he => by
  rcases List.mem_cons.1 he with h | h
  · rw [h]; exact madeF_few _ _ _ (congrArg Ea.f hy)
  · rw [List.mem_singleton.1 h]; exact madeF_few _ _ _ (congrArg Ea.f hz)
set_option maxHeartbeats 1600000 in
theorem xf_works {W : World} {L : List Blk} : XF Try.prog W 9 #[] L (fun v L' => v = .bool true ∧ L' = L) := by
  refine xf_enter (args := []) Try.func9 rfl Try.ntmps9 rfl ?_
  focus
    refine xc_seq ?_
    refine xc_region ?_
    refine xo_rd (rd_assign rfl) rfl ?_
    refine xo_nil ?_
    refine xq_seq ?_
    refine xc_seq ?_
    refine xc_seq ?_
    refine xc_region ?_
    refine xo_rd (rd_assign rfl) rfl ?_
    refine xo_nil ?_
    refine xq_seq ?_
    refine xc_block ?_
  refine xc_loopK (ι := Nat) (fun i => i ≤ 4) (fun i => 4 - i) (fun i => [(1, .int .i64 i)]) 0 (by decide) (by repeat (first | exact keep_nil | refine keep_cons rfl ?_)) ?_
  intro i hi
  by_cases hin : i < 4
  · have hc : i = 0 ∨ i = 1 ∨ i = 2 ∨ i = 3 := by omega
    rcases hc with rfl | rfl | rfl | rfl
    · skip
      focus
        refine xc_seq ?_
        refine xc_seq ?_
        refine xc_region ?_
        refine xo_rd (rd_move rfl) rfl ?_
        refine xo_rd (rd_lss rfl rfl) rfl ?_
        refine xo_nil ?_
        refine xq_seq ?_
        refine xc_condt rfl ?_
        refine xc_skip ?_
        refine xq_seq ?_
        refine xc_seq ?_
        refine xc_block ?_
        refine xc_seq ?_
        refine xc_region ?_
        refine xo_ef rfl (ef_call rfl (XF.mono (xf_NewE 2 true ⟨by decide, by decide⟩) ?_))
        rintro v L' ⟨r, rfl, rfl⟩
        refine xo_rd (rd_move rfl) rfl ?_
        refine xo_rd (rd_extract rfl rfl) rfl ?_
        refine xo_rd (rd_extract rfl rfl) rfl ?_
        refine xo_rd (rd_assign rfl) rfl ?_
        refine xo_rd (rd_assign rfl) rfl ?_
        refine xo_nil ?_
        refine xq_seq ?_
        refine xc_seq ?_
        refine xc_seq ?_
        refine xc_region ?_
        refine xo_rd (rd_move rfl) rfl ?_
        refine xo_rd (rd_neq rfl rfl) rfl ?_
        refine xo_nil ?_
        refine xq_seq ?_
        refine xc_condf rfl ?_
        refine xc_skip ?_
        refine xq_seq ?_
        refine xc_seq ?_
        refine xc_region ?_
        refine xo_rd (rd_move rfl) rfl ?_
        refine xo_rd (rd_move rfl) rfl ?_
        refine xo_rd (rd_eql rfl rfl) rfl ?_
        refine xo_ef rfl (ef_call rfl (XF.mono (xf_made (wKey 0) 1 1 ⟨by decide, by decide⟩) ?_))
        rintro v L' ⟨y, rfl, hya, hyo, rfl⟩
        refine xo_seg [_] y.i.f.bl _ ?_
        refine xo_ef rfl (ef_sliceA (vs := y.enc) rfl rfl (by rw [En.len]; decide) (by rw [En.len]; decide) fun r20 => ?_)
        refine xo_ef rfl (ef_call rfl (XF.mono ((xf_PutE (M := (r20, .cells y.enc.toArray 45 (0, 0)) :: (y.i.f.bl ++ L)) r 2 true false [] none 0 [] ⟨SlQ.nil, (fun e h => by cases h), (fun e h => by cases h), Nat.zero_le _⟩ (some ⟨r20, 0, none⟩) 1 1 [y] (rs_1 (List.Mem.head _)) rfl (fun e he => by rw [List.mem_singleton.1 he]; exact hyo.at.skip) (fun e he => by rw [List.mem_singleton.1 he]; exact madeF_few _ _ _ (congrArg Ea.f hya)) (by decide) [] [madeE (wKey 0) 1 1] _ _ rfl (by show [y.a] = _; rw [hya]) (w_1 0 (by decide))).perm (perm_w1 _ _ _)) ?_))
        rintro v L' ⟨es1, p1, c1, l1, N1, rfl, rfl, hok1, hm1⟩
        refine xo_rd (rd_assign rfl) rfl ?_
        refine xo_nil ?_
        refine xq_seq ?_
      have hl1 : es1.length = 1 := by
        have h := congrArg List.length hm1
        rw [List.length_map] at h
        exact h
      focus
        refine xc_seq ?_
        refine xc_seq ?_
        refine xc_region ?_
        refine xo_rd (rd_move rfl) rfl ?_
        refine xo_rd (rd_eql rfl rfl) rfl ?_
        refine xo_rd (rd_move rfl) rfl ?_
        refine xo_gskip rfl rfl rfl rfl ?_
        refine xo_gskip rfl rfl rfl rfl ?_
        refine xo_gskip rfl rfl rfl rfl ?_
        refine xo_rd (rd_pickf rfl rfl) rfl ?_
        refine xo_nil ?_
        refine xq_seq ?_
        refine xc_condf rfl ?_
        refine xc_skip ?_
        refine xq_seq ?_
      focus
        refine xc_seq ?_
        refine xc_region ?_
        refine xo_rd (rd_move rfl) rfl ?_
        refine xo_rd (rd_move rfl) rfl ?_
        refine xo_rd (rd_move rfl) rfl ?_
        refine xo_rd (rd_eql rfl rfl) rfl ?_
        refine xo_rd (rd_move rfl) rfl ?_
        refine xo_grd rfl rfl (rd_move rfl) rfl ?_
        refine xo_grd rfl rfl (rd_eql rfl rfl) rfl ?_
        refine xo_rd (rd_pickf rfl rfl) rfl ?_
        refine xo_ef rfl (ef_call rfl (XF.mono (xf_made (wKey2 0) 2 1 ⟨by decide, by decide⟩) ?_))
        rintro v L' ⟨y2, rfl, hya2, hyo2, rfl⟩
        refine xo_seg [_] y2.i.f.bl _ ?_
        refine xo_ef rfl (ef_call rfl (XF.mono (xf_made false 3 1 ⟨by decide, by decide⟩) ?_))
        rintro v L' ⟨y3, rfl, hya3, hyo3, rfl⟩
        refine xo_seg [_] y3.i.f.bl _ ?_
        refine xo_ef rfl (ef_buildL (T := 73) (len := 2) (s := 17) (cells := (y2.enc ++ y3.enc).toArray) rfl (by decide) (by decide) (by kernel_rfl) fun r39 => ?_)
        refine xo_ef rfl (ef_call rfl (XF.mono ((xf_PutE (M := (r39, .cells (y2.enc ++ y3.enc).toArray 45 (0, 0)) :: (y3.i.f.bl ++ (y2.i.f.bl ++ (N1 ++ ((r20, .cells y.enc.toArray 45 (0, 0)) :: (y.i.f.bl ++ L)))))) r 2 true false es1 p1 c1 l1 (hok1.mono (by intro z hz; simp [hz])) (some ⟨r39, 0, none⟩) 2 2 [y2, y3] (rs_2 (List.Mem.head _)) rfl (at_2 hyo2 hyo3) (few_2 hya2 hya3) (by omega) [madeE (wKey 0) 1 1] [madeE (wKey2 0) 2 1, madeE false 3 1] _ _ hm1 (by show [y2.a, y3.a] = _; rw [hya2, hya3]) (w_2 0 (by decide))).perm (perm_w2 _ _ y3.i.f.bl y2.i.f.bl l1 (N1 ++ ((r20, .cells y.enc.toArray 45 (0, 0)) :: (y.i.f.bl ++ L))))) ?_))
        rintro v L' ⟨es2, p2, c2, l2, N2, rfl, rfl, hok2, hm2⟩
        refine xo_rd (rd_addn rfl rfl (by omega) (by omega)) rfl ?_
        refine xo_rd (rd_assign rfl) rfl ?_
        refine xo_nil ?_
        refine xq_seq ?_
      have hsb : L.Sublist (N2 ++ ((r39, .cells (y2.enc ++ y3.enc).toArray 45 (0, 0)) :: (y3.i.f.bl ++ (y2.i.f.bl ++ (N1 ++ ((r20, .cells y.enc.toArray 45 (0, 0)) :: (y.i.f.bl ++ L))))))) :=
        ((((((List.sublist_append_right y.i.f.bl L).cons _).trans (List.sublist_append_right N1 _)).trans (List.sublist_append_right y2.i.f.bl _)).trans (List.sublist_append_right y3.i.f.bl _)).cons _).trans (List.sublist_append_right N2 _)
      generalize (N2 ++ ((r39, Obj.cells (y2.enc ++ y3.enc).toArray 45 (0, 0)) :: (y3.i.f.bl ++ (y2.i.f.bl ++ (N1 ++ ((r20, Obj.cells y.enc.toArray 45 (0, 0)) :: (y.i.f.bl ++ L)))))) : List Blk) = R at *
      have hel : es2.length = 3 := by
        have h := congrArg List.length hm2
        rw [List.length_map] at h
        exact h
      have hqr2 : ∀ L', (∀ z, z ∈ ((r, Obj.cells (qcl 2 true false p2 es2.length c2).toArray 108 (0, 0)) :: (l2 ++ R) : List Blk) → z ∈ L') → QR W L' (Qs.mk r 2 true false es2 p2 c2 l2) := fun L' h => hok2.qr fun z hz => h z (List.mem_append_left _ hz)
      have hwt := fun L' (h : ∀ z, z ∈ ((r, Obj.cells (qcl 2 true false p2 es2.length c2).toArray 108 (0, 0)) :: (l2 ++ R) : List Blk) → z ∈ L') => xf_waits (Qs.mk r 2 true false es2 p2 c2 l2) (hqr2 L' h) (fun e he => (hok2.at' e he).mono fun z hz => h z (List.mem_cons_of_mem _ (List.mem_append_right _ hz))) hok2.few (by dsimp only; omega) (fun e he => w_4 0 (by decide) e.a (hm2 ▸ List.mem_map.2 ⟨e, he, rfl⟩))
      have hwe : waitsA (Qs.mk r 2 true false es2 p2 c2 l2).a = [-1, 2, 3] := by
        show waitsA (es2.map En.a) = _
        rw [hm2]; exact w_3 0 (by decide)
      rw [hwe] at hwt
      refine xc_seq (xc_region ?_)
      refine xo_ef rfl (ef_buildL (T := 101) (len := 3) (s := 1) (cells := #[.int .i64 (-1), .int .i64 2, .int .i64 3]) rfl (by decide) (by decide) (by kernel_rfl) fun r42 => ?_)
      refine xo_ef rfl (ef_buildL (T := 101) (len := 3) (s := 1) (cells := #[.int .i64 (-1), .int .i64 2, .int .i64 3]) rfl (by decide) (by decide) (by kernel_rfl) fun r43 => ?_)
      refine xo_ef rfl (ef_buildL (T := 101) (len := 3) (s := 1) (cells := #[.int .i64 1, .int .i64 2, .int .i64 (-1)]) rfl (by decide) (by decide) (by kernel_rfl) fun r44 => ?_)
      refine xo_ef rfl (ef_buildL (T := 101) (len := 3) (s := 1) (cells := #[.int .i64 1, .int .i64 2, .int .i64 (-1)]) rfl (by decide) (by decide) (by kernel_rfl) fun r45 => ?_)
      refine xo_ef rfl (ef_buildL (T := 102) (len := 4) (s := 1) (cells := #[.slice (some ⟨r42, 0, none⟩) 3 3, .slice (some ⟨r43, 0, none⟩) 3 3, .slice (some ⟨r44, 0, none⟩) 3 3, .slice (some ⟨r45, 0, none⟩) 3 3]) rfl (by decide) (by decide) (by kernel_rfl) fun r46 => ?_)
      focus
        refine xo_rd (rd_move rfl) rfl ?_
        refine xo_rd (rd_indexAddr rfl rfl (by omega) (by omega)) rfl ?_
        refine xo_rd (rd_load1 rfl (Cl.o0 rfl)) rfl ?_
        refine xo_rd (rd_assign rfl) rfl ?_
        refine xo_nil ?_
        refine xq_seq ?_
        refine xc_seq ?_
        refine xc_region ?_
        refine xo_rd (rd_move rfl) rfl ?_
        refine xo_rd (rd_neq rfl rfl) rfl ?_
        refine xo_rd (rd_move rfl) rfl ?_
        refine xo_grd rfl rfl (rd_move rfl) rfl ?_
        refine xo_gef rfl rfl rfl (ef_call rfl (XF.mono (hwt _ (fun z hz => List.mem_append_right [_, _, _, _, _] hz)) ?_))
        rintro v L' ⟨qw, kw, NW, rfl, hRw, rfl⟩
        refine xo_grd rfl rfl (rd_move rfl) rfl ?_
        refine xo_gef rfl rfl rfl (ef_call rfl (XF.mono (xf_sameIT qw (some ⟨r42, 0, none⟩) es2.length 3 kw 3 [-1, 2, 3] [-1, 2, 3] rfl (by rw [hel]; rfl) rfl hRw (Rs.fresh (vs := ints .i64 [-1, 2, 3]) (T := 3) (fr := (0, 0)) (List.mem_append_right _ (by first | exact List.Mem.head _ | exact List.Mem.tail _ (List.Mem.head _) | exact List.Mem.tail _ (List.Mem.tail _ (List.Mem.head _)) | exact List.Mem.tail _ (List.Mem.tail _ (List.Mem.tail _ (List.Mem.head _))) | exact List.Mem.tail _ (List.Mem.tail _ (List.Mem.tail _ (List.Mem.tail _ (List.Mem.head _)))) | exact List.Mem.tail _ (List.Mem.tail _ (List.Mem.tail _ (List.Mem.tail _ (List.Mem.tail _ (List.Mem.head _))))) | exact List.Mem.tail _ (List.Mem.tail _ (List.Mem.tail _ (List.Mem.tail _ (List.Mem.tail _ (List.Mem.tail _ (List.Mem.head _)))))) | exact List.Mem.tail _ (List.Mem.tail _ (List.Mem.tail _ (List.Mem.tail _ (List.Mem.tail _ (List.Mem.tail _ (List.Mem.tail _ (List.Mem.head _)))))))))) (by omega)) ?_))
        rintro v L' ⟨rfl, rfl⟩
        refine xo_grd rfl rfl (rd_not rfl) rfl ?_
        refine xo_rd (rd_pickf rfl rfl) rfl ?_
        refine xo_nil ?_
        refine xq_seq ?_
        refine xc_condf rfl ?_
        refine xc_skip ?_
        refine xq_block ?_
        refine xq_seq ?_
        refine xc_region ?_
        refine xo_rd (rd_move rfl) rfl ?_
        refine xo_rd (rd_addn rfl rfl (by omega) (by omega)) rfl ?_
        refine xo_rd (rd_assign rfl) rfl ?_
        refine xo_nil ?_
      exact xq_roundK rfl 1 (by decide) (by decide) ((hsb.trans ((List.sublist_append_right l2 R).cons _)).trans ((List.sublist_append_right [_, _, _, _, _] _).trans (List.sublist_append_right NW _))) (by repeat (first | exact keep_nil | refine keep_cons rfl ?_))
    · skip
      focus
        refine xc_seq ?_
        refine xc_seq ?_
        refine xc_region ?_
        refine xo_rd (rd_move rfl) rfl ?_
        refine xo_rd (rd_lss rfl rfl) rfl ?_
        refine xo_nil ?_
        refine xq_seq ?_
        refine xc_condt rfl ?_
        refine xc_skip ?_
        refine xq_seq ?_
        refine xc_seq ?_
        refine xc_block ?_
        refine xc_seq ?_
        refine xc_region ?_
        refine xo_ef rfl (ef_call rfl (XF.mono (xf_NewE 2 true ⟨by decide, by decide⟩) ?_))
        rintro v L' ⟨r, rfl, rfl⟩
        refine xo_rd (rd_move rfl) rfl ?_
        refine xo_rd (rd_extract rfl rfl) rfl ?_
        refine xo_rd (rd_extract rfl rfl) rfl ?_
        refine xo_rd (rd_assign rfl) rfl ?_
        refine xo_rd (rd_assign rfl) rfl ?_
        refine xo_nil ?_
        refine xq_seq ?_
        refine xc_seq ?_
        refine xc_seq ?_
        refine xc_region ?_
        refine xo_rd (rd_move rfl) rfl ?_
        refine xo_rd (rd_neq rfl rfl) rfl ?_
        refine xo_nil ?_
        refine xq_seq ?_
        refine xc_condf rfl ?_
        refine xc_skip ?_
        refine xq_seq ?_
        refine xc_seq ?_
        refine xc_region ?_
        refine xo_rd (rd_move rfl) rfl ?_
        refine xo_rd (rd_move rfl) rfl ?_
        refine xo_rd (rd_eql rfl rfl) rfl ?_
        refine xo_ef rfl (ef_call rfl (XF.mono (xf_made (wKey 1) 1 1 ⟨by decide, by decide⟩) ?_))
        rintro v L' ⟨y, rfl, hya, hyo, rfl⟩
        refine xo_seg [_] y.i.f.bl _ ?_
        refine xo_ef rfl (ef_sliceA (vs := y.enc) rfl rfl (by rw [En.len]; decide) (by rw [En.len]; decide) fun r20 => ?_)
        refine xo_ef rfl (ef_call rfl (XF.mono ((xf_PutE (M := (r20, .cells y.enc.toArray 45 (0, 0)) :: (y.i.f.bl ++ L)) r 2 true false [] none 0 [] ⟨SlQ.nil, (fun e h => by cases h), (fun e h => by cases h), Nat.zero_le _⟩ (some ⟨r20, 0, none⟩) 1 1 [y] (rs_1 (List.Mem.head _)) rfl (fun e he => by rw [List.mem_singleton.1 he]; exact hyo.at.skip) (fun e he => by rw [List.mem_singleton.1 he]; exact madeF_few _ _ _ (congrArg Ea.f hya)) (by decide) [] [madeE (wKey 1) 1 1] _ _ rfl (by show [y.a] = _; rw [hya]) (w_1 1 (by decide))).perm (perm_w1 _ _ _)) ?_))
        rintro v L' ⟨es1, p1, c1, l1, N1, rfl, rfl, hok1, hm1⟩
        refine xo_rd (rd_assign rfl) rfl ?_
        refine xo_nil ?_
        refine xq_seq ?_
      have hl1 : es1.length = 1 := by
        have h := congrArg List.length hm1
        rw [List.length_map] at h
        exact h
      focus
        refine xc_seq ?_
        refine xc_seq ?_
        refine xc_region ?_
        refine xo_rd (rd_move rfl) rfl ?_
        refine xo_rd (rd_eql rfl rfl) rfl ?_
        refine xo_rd (rd_move rfl) rfl ?_
        refine xo_gskip rfl rfl rfl rfl ?_
        refine xo_gskip rfl rfl rfl rfl ?_
        refine xo_gskip rfl rfl rfl rfl ?_
        refine xo_rd (rd_pickf rfl rfl) rfl ?_
        refine xo_nil ?_
        refine xq_seq ?_
        refine xc_condf rfl ?_
        refine xc_skip ?_
        refine xq_seq ?_
      focus
        refine xc_seq ?_
        refine xc_region ?_
        refine xo_rd (rd_move rfl) rfl ?_
        refine xo_rd (rd_move rfl) rfl ?_
        refine xo_rd (rd_move rfl) rfl ?_
        refine xo_rd (rd_eql rfl rfl) rfl ?_
        refine xo_rd (rd_move rfl) rfl ?_
        refine xo_gskip rfl rfl rfl rfl ?_
        refine xo_gskip rfl rfl rfl rfl ?_
        refine xo_rd (rd_pickt rfl rfl) rfl ?_
        refine xo_ef rfl (ef_call rfl (XF.mono (xf_made (wKey2 1) 2 1 ⟨by decide, by decide⟩) ?_))
        rintro v L' ⟨y2, rfl, hya2, hyo2, rfl⟩
        refine xo_seg [_] y2.i.f.bl _ ?_
        refine xo_ef rfl (ef_call rfl (XF.mono (xf_made false 3 1 ⟨by decide, by decide⟩) ?_))
        rintro v L' ⟨y3, rfl, hya3, hyo3, rfl⟩
        refine xo_seg [_] y3.i.f.bl _ ?_
        refine xo_ef rfl (ef_buildL (T := 73) (len := 2) (s := 17) (cells := (y2.enc ++ y3.enc).toArray) rfl (by decide) (by decide) (by kernel_rfl) fun r39 => ?_)
        refine xo_ef rfl (ef_call rfl (XF.mono ((xf_PutE (M := (r39, .cells (y2.enc ++ y3.enc).toArray 45 (0, 0)) :: (y3.i.f.bl ++ (y2.i.f.bl ++ (N1 ++ ((r20, .cells y.enc.toArray 45 (0, 0)) :: (y.i.f.bl ++ L)))))) r 2 true false es1 p1 c1 l1 (hok1.mono (by intro z hz; simp [hz])) (some ⟨r39, 0, none⟩) 2 2 [y2, y3] (rs_2 (List.Mem.head _)) rfl (at_2 hyo2 hyo3) (few_2 hya2 hya3) (by omega) [madeE (wKey 1) 1 1] [madeE (wKey2 1) 2 1, madeE false 3 1] _ _ hm1 (by show [y2.a, y3.a] = _; rw [hya2, hya3]) (w_2 1 (by decide))).perm (perm_w2 _ _ y3.i.f.bl y2.i.f.bl l1 (N1 ++ ((r20, .cells y.enc.toArray 45 (0, 0)) :: (y.i.f.bl ++ L))))) ?_))
        rintro v L' ⟨es2, p2, c2, l2, N2, rfl, rfl, hok2, hm2⟩
        refine xo_rd (rd_addn rfl rfl (by omega) (by omega)) rfl ?_
        refine xo_rd (rd_assign rfl) rfl ?_
        refine xo_nil ?_
        refine xq_seq ?_
      have hsb : L.Sublist (N2 ++ ((r39, .cells (y2.enc ++ y3.enc).toArray 45 (0, 0)) :: (y3.i.f.bl ++ (y2.i.f.bl ++ (N1 ++ ((r20, .cells y.enc.toArray 45 (0, 0)) :: (y.i.f.bl ++ L))))))) :=
        ((((((List.sublist_append_right y.i.f.bl L).cons _).trans (List.sublist_append_right N1 _)).trans (List.sublist_append_right y2.i.f.bl _)).trans (List.sublist_append_right y3.i.f.bl _)).cons _).trans (List.sublist_append_right N2 _)
      generalize (N2 ++ ((r39, Obj.cells (y2.enc ++ y3.enc).toArray 45 (0, 0)) :: (y3.i.f.bl ++ (y2.i.f.bl ++ (N1 ++ ((r20, Obj.cells y.enc.toArray 45 (0, 0)) :: (y.i.f.bl ++ L)))))) : List Blk) = R at *
      have hel : es2.length = 3 := by
        have h := congrArg List.length hm2
        rw [List.length_map] at h
        exact h
      have hqr2 : ∀ L', (∀ z, z ∈ ((r, Obj.cells (qcl 2 true false p2 es2.length c2).toArray 108 (0, 0)) :: (l2 ++ R) : List Blk) → z ∈ L') → QR W L' (Qs.mk r 2 true false es2 p2 c2 l2) := fun L' h => hok2.qr fun z hz => h z (List.mem_append_left _ hz)
      have hwt := fun L' (h : ∀ z, z ∈ ((r, Obj.cells (qcl 2 true false p2 es2.length c2).toArray 108 (0, 0)) :: (l2 ++ R) : List Blk) → z ∈ L') => xf_waits (Qs.mk r 2 true false es2 p2 c2 l2) (hqr2 L' h) (fun e he => (hok2.at' e he).mono fun z hz => h z (List.mem_cons_of_mem _ (List.mem_append_right _ hz))) hok2.few (by dsimp only; omega) (fun e he => w_4 1 (by decide) e.a (hm2 ▸ List.mem_map.2 ⟨e, he, rfl⟩))
      have hwe : waitsA (Qs.mk r 2 true false es2 p2 c2 l2).a = [-1, 2, 3] := by
        show waitsA (es2.map En.a) = _
        rw [hm2]; exact w_3 1 (by decide)
      rw [hwe] at hwt
      refine xc_seq (xc_region ?_)
      refine xo_ef rfl (ef_buildL (T := 101) (len := 3) (s := 1) (cells := #[.int .i64 (-1), .int .i64 2, .int .i64 3]) rfl (by decide) (by decide) (by kernel_rfl) fun r42 => ?_)
      refine xo_ef rfl (ef_buildL (T := 101) (len := 3) (s := 1) (cells := #[.int .i64 (-1), .int .i64 2, .int .i64 3]) rfl (by decide) (by decide) (by kernel_rfl) fun r43 => ?_)
      refine xo_ef rfl (ef_buildL (T := 101) (len := 3) (s := 1) (cells := #[.int .i64 1, .int .i64 2, .int .i64 (-1)]) rfl (by decide) (by decide) (by kernel_rfl) fun r44 => ?_)
      refine xo_ef rfl (ef_buildL (T := 101) (len := 3) (s := 1) (cells := #[.int .i64 1, .int .i64 2, .int .i64 (-1)]) rfl (by decide) (by decide) (by kernel_rfl) fun r45 => ?_)
      refine xo_ef rfl (ef_buildL (T := 102) (len := 4) (s := 1) (cells := #[.slice (some ⟨r42, 0, none⟩) 3 3, .slice (some ⟨r43, 0, none⟩) 3 3, .slice (some ⟨r44, 0, none⟩) 3 3, .slice (some ⟨r45, 0, none⟩) 3 3]) rfl (by decide) (by decide) (by kernel_rfl) fun r46 => ?_)
      focus
        refine xo_rd (rd_move rfl) rfl ?_
        refine xo_rd (rd_indexAddr rfl rfl (by omega) (by omega)) rfl ?_
        refine xo_rd (rd_load1 rfl (Cl.o0 rfl)) rfl ?_
        refine xo_rd (rd_assign rfl) rfl ?_
        refine xo_nil ?_
        refine xq_seq ?_
        refine xc_seq ?_
        refine xc_region ?_
        refine xo_rd (rd_move rfl) rfl ?_
        refine xo_rd (rd_neq rfl rfl) rfl ?_
        refine xo_rd (rd_move rfl) rfl ?_
        refine xo_grd rfl rfl (rd_move rfl) rfl ?_
        refine xo_gef rfl rfl rfl (ef_call rfl (XF.mono (hwt _ (fun z hz => List.mem_append_right [_, _, _, _, _] hz)) ?_))
        rintro v L' ⟨qw, kw, NW, rfl, hRw, rfl⟩
        refine xo_grd rfl rfl (rd_move rfl) rfl ?_
        refine xo_gef rfl rfl rfl (ef_call rfl (XF.mono (xf_sameIT qw (some ⟨r43, 0, none⟩) es2.length 3 kw 3 [-1, 2, 3] [-1, 2, 3] rfl (by rw [hel]; rfl) rfl hRw (Rs.fresh (vs := ints .i64 [-1, 2, 3]) (T := 3) (fr := (0, 0)) (List.mem_append_right _ (by first | exact List.Mem.head _ | exact List.Mem.tail _ (List.Mem.head _) | exact List.Mem.tail _ (List.Mem.tail _ (List.Mem.head _)) | exact List.Mem.tail _ (List.Mem.tail _ (List.Mem.tail _ (List.Mem.head _))) | exact List.Mem.tail _ (List.Mem.tail _ (List.Mem.tail _ (List.Mem.tail _ (List.Mem.head _)))) | exact List.Mem.tail _ (List.Mem.tail _ (List.Mem.tail _ (List.Mem.tail _ (List.Mem.tail _ (List.Mem.head _))))) | exact List.Mem.tail _ (List.Mem.tail _ (List.Mem.tail _ (List.Mem.tail _ (List.Mem.tail _ (List.Mem.tail _ (List.Mem.head _)))))) | exact List.Mem.tail _ (List.Mem.tail _ (List.Mem.tail _ (List.Mem.tail _ (List.Mem.tail _ (List.Mem.tail _ (List.Mem.tail _ (List.Mem.head _)))))))))) (by omega)) ?_))
        rintro v L' ⟨rfl, rfl⟩
        refine xo_grd rfl rfl (rd_not rfl) rfl ?_
        refine xo_rd (rd_pickf rfl rfl) rfl ?_
        refine xo_nil ?_
        refine xq_seq ?_
        refine xc_condf rfl ?_
        refine xc_skip ?_
        refine xq_block ?_
        refine xq_seq ?_
        refine xc_region ?_
        refine xo_rd (rd_move rfl) rfl ?_
        refine xo_rd (rd_addn rfl rfl (by omega) (by omega)) rfl ?_
        refine xo_rd (rd_assign rfl) rfl ?_
        refine xo_nil ?_
      exact xq_roundK rfl 2 (by decide) (by decide) ((hsb.trans ((List.sublist_append_right l2 R).cons _)).trans ((List.sublist_append_right [_, _, _, _, _] _).trans (List.sublist_append_right NW _))) (by repeat (first | exact keep_nil | refine keep_cons rfl ?_))
    · skip
      focus
        refine xc_seq ?_
        refine xc_seq ?_
        refine xc_region ?_
        refine xo_rd (rd_move rfl) rfl ?_
        refine xo_rd (rd_lss rfl rfl) rfl ?_
        refine xo_nil ?_
        refine xq_seq ?_
        refine xc_condt rfl ?_
        refine xc_skip ?_
        refine xq_seq ?_
        refine xc_seq ?_
        refine xc_block ?_
        refine xc_seq ?_
        refine xc_region ?_
        refine xo_ef rfl (ef_call rfl (XF.mono (xf_NewE 2 true ⟨by decide, by decide⟩) ?_))
        rintro v L' ⟨r, rfl, rfl⟩
        refine xo_rd (rd_move rfl) rfl ?_
        refine xo_rd (rd_extract rfl rfl) rfl ?_
        refine xo_rd (rd_extract rfl rfl) rfl ?_
        refine xo_rd (rd_assign rfl) rfl ?_
        refine xo_rd (rd_assign rfl) rfl ?_
        refine xo_nil ?_
        refine xq_seq ?_
        refine xc_seq ?_
        refine xc_seq ?_
        refine xc_region ?_
        refine xo_rd (rd_move rfl) rfl ?_
        refine xo_rd (rd_neq rfl rfl) rfl ?_
        refine xo_nil ?_
        refine xq_seq ?_
        refine xc_condf rfl ?_
        refine xc_skip ?_
        refine xq_seq ?_
        refine xc_seq ?_
        refine xc_region ?_
        refine xo_rd (rd_move rfl) rfl ?_
        refine xo_rd (rd_move rfl) rfl ?_
        refine xo_rd (rd_eql rfl rfl) rfl ?_
        refine xo_ef rfl (ef_call rfl (XF.mono (xf_made (wKey 2) 1 1 ⟨by decide, by decide⟩) ?_))
        rintro v L' ⟨y, rfl, hya, hyo, rfl⟩
        refine xo_seg [_] y.i.f.bl _ ?_
        refine xo_ef rfl (ef_sliceA (vs := y.enc) rfl rfl (by rw [En.len]; decide) (by rw [En.len]; decide) fun r20 => ?_)
        refine xo_ef rfl (ef_call rfl (XF.mono ((xf_PutE (M := (r20, .cells y.enc.toArray 45 (0, 0)) :: (y.i.f.bl ++ L)) r 2 true false [] none 0 [] ⟨SlQ.nil, (fun e h => by cases h), (fun e h => by cases h), Nat.zero_le _⟩ (some ⟨r20, 0, none⟩) 1 1 [y] (rs_1 (List.Mem.head _)) rfl (fun e he => by rw [List.mem_singleton.1 he]; exact hyo.at.skip) (fun e he => by rw [List.mem_singleton.1 he]; exact madeF_few _ _ _ (congrArg Ea.f hya)) (by decide) [] [madeE (wKey 2) 1 1] _ _ rfl (by show [y.a] = _; rw [hya]) (w_1 2 (by decide))).perm (perm_w1 _ _ _)) ?_))
        rintro v L' ⟨es1, p1, c1, l1, N1, rfl, rfl, hok1, hm1⟩
        refine xo_rd (rd_assign rfl) rfl ?_
        refine xo_nil ?_
        refine xq_seq ?_
      have hl1 : es1.length = 1 := by
        have h := congrArg List.length hm1
        rw [List.length_map] at h
        exact h
      focus
        refine xc_seq ?_
        refine xc_seq ?_
        refine xc_region ?_
        refine xo_rd (rd_move rfl) rfl ?_
        refine xo_rd (rd_eql rfl rfl) rfl ?_
        refine xo_rd (rd_move rfl) rfl ?_
        refine xo_gskip rfl rfl rfl rfl ?_
        refine xo_gskip rfl rfl rfl rfl ?_
        refine xo_gskip rfl rfl rfl rfl ?_
        refine xo_rd (rd_pickf rfl rfl) rfl ?_
        refine xo_nil ?_
        refine xq_seq ?_
        refine xc_condf rfl ?_
        refine xc_skip ?_
        refine xq_seq ?_
      focus
        refine xc_seq ?_
        refine xc_region ?_
        refine xo_rd (rd_move rfl) rfl ?_
        refine xo_rd (rd_move rfl) rfl ?_
        refine xo_rd (rd_move rfl) rfl ?_
        refine xo_rd (rd_eql rfl rfl) rfl ?_
        refine xo_rd (rd_move rfl) rfl ?_
        refine xo_grd rfl rfl (rd_move rfl) rfl ?_
        refine xo_grd rfl rfl (rd_eql rfl rfl) rfl ?_
        refine xo_rd (rd_pickf rfl rfl) rfl ?_
        refine xo_ef rfl (ef_call rfl (XF.mono (xf_made (wKey2 2) 2 1 ⟨by decide, by decide⟩) ?_))
        rintro v L' ⟨y2, rfl, hya2, hyo2, rfl⟩
        refine xo_seg [_] y2.i.f.bl _ ?_
        refine xo_ef rfl (ef_call rfl (XF.mono (xf_made false 3 1 ⟨by decide, by decide⟩) ?_))
        rintro v L' ⟨y3, rfl, hya3, hyo3, rfl⟩
        refine xo_seg [_] y3.i.f.bl _ ?_
        refine xo_ef rfl (ef_buildL (T := 73) (len := 2) (s := 17) (cells := (y2.enc ++ y3.enc).toArray) rfl (by decide) (by decide) (by kernel_rfl) fun r39 => ?_)
        refine xo_ef rfl (ef_call rfl (XF.mono ((xf_PutE (M := (r39, .cells (y2.enc ++ y3.enc).toArray 45 (0, 0)) :: (y3.i.f.bl ++ (y2.i.f.bl ++ (N1 ++ ((r20, .cells y.enc.toArray 45 (0, 0)) :: (y.i.f.bl ++ L)))))) r 2 true false es1 p1 c1 l1 (hok1.mono (by intro z hz; simp [hz])) (some ⟨r39, 0, none⟩) 2 2 [y2, y3] (rs_2 (List.Mem.head _)) rfl (at_2 hyo2 hyo3) (few_2 hya2 hya3) (by omega) [madeE (wKey 2) 1 1] [madeE (wKey2 2) 2 1, madeE false 3 1] _ _ hm1 (by show [y2.a, y3.a] = _; rw [hya2, hya3]) (w_2 2 (by decide))).perm (perm_w2 _ _ y3.i.f.bl y2.i.f.bl l1 (N1 ++ ((r20, .cells y.enc.toArray 45 (0, 0)) :: (y.i.f.bl ++ L))))) ?_))
        rintro v L' ⟨es2, p2, c2, l2, N2, rfl, rfl, hok2, hm2⟩
        refine xo_rd (rd_addn rfl rfl (by omega) (by omega)) rfl ?_
        refine xo_rd (rd_assign rfl) rfl ?_
        refine xo_nil ?_
        refine xq_seq ?_
      have hsb : L.Sublist (N2 ++ ((r39, .cells (y2.enc ++ y3.enc).toArray 45 (0, 0)) :: (y3.i.f.bl ++ (y2.i.f.bl ++ (N1 ++ ((r20, .cells y.enc.toArray 45 (0, 0)) :: (y.i.f.bl ++ L))))))) :=
        ((((((List.sublist_append_right y.i.f.bl L).cons _).trans (List.sublist_append_right N1 _)).trans (List.sublist_append_right y2.i.f.bl _)).trans (List.sublist_append_right y3.i.f.bl _)).cons _).trans (List.sublist_append_right N2 _)
      generalize (N2 ++ ((r39, Obj.cells (y2.enc ++ y3.enc).toArray 45 (0, 0)) :: (y3.i.f.bl ++ (y2.i.f.bl ++ (N1 ++ ((r20, Obj.cells y.enc.toArray 45 (0, 0)) :: (y.i.f.bl ++ L)))))) : List Blk) = R at *
      have hel : es2.length = 3 := by
        have h := congrArg List.length hm2
        rw [List.length_map] at h
        exact h
      have hqr2 : ∀ L', (∀ z, z ∈ ((r, Obj.cells (qcl 2 true false p2 es2.length c2).toArray 108 (0, 0)) :: (l2 ++ R) : List Blk) → z ∈ L') → QR W L' (Qs.mk r 2 true false es2 p2 c2 l2) := fun L' h => hok2.qr fun z hz => h z (List.mem_append_left _ hz)
      have hwt := fun L' (h : ∀ z, z ∈ ((r, Obj.cells (qcl 2 true false p2 es2.length c2).toArray 108 (0, 0)) :: (l2 ++ R) : List Blk) → z ∈ L') => xf_waits (Qs.mk r 2 true false es2 p2 c2 l2) (hqr2 L' h) (fun e he => (hok2.at' e he).mono fun z hz => h z (List.mem_cons_of_mem _ (List.mem_append_right _ hz))) hok2.few (by dsimp only; omega) (fun e he => w_4 2 (by decide) e.a (hm2 ▸ List.mem_map.2 ⟨e, he, rfl⟩))
      have hwe : waitsA (Qs.mk r 2 true false es2 p2 c2 l2).a = [1, 2, -1] := by
        show waitsA (es2.map En.a) = _
        rw [hm2]; exact w_3 2 (by decide)
      rw [hwe] at hwt
      refine xc_seq (xc_region ?_)
      refine xo_ef rfl (ef_buildL (T := 101) (len := 3) (s := 1) (cells := #[.int .i64 (-1), .int .i64 2, .int .i64 3]) rfl (by decide) (by decide) (by kernel_rfl) fun r42 => ?_)
      refine xo_ef rfl (ef_buildL (T := 101) (len := 3) (s := 1) (cells := #[.int .i64 (-1), .int .i64 2, .int .i64 3]) rfl (by decide) (by decide) (by kernel_rfl) fun r43 => ?_)
      refine xo_ef rfl (ef_buildL (T := 101) (len := 3) (s := 1) (cells := #[.int .i64 1, .int .i64 2, .int .i64 (-1)]) rfl (by decide) (by decide) (by kernel_rfl) fun r44 => ?_)
      refine xo_ef rfl (ef_buildL (T := 101) (len := 3) (s := 1) (cells := #[.int .i64 1, .int .i64 2, .int .i64 (-1)]) rfl (by decide) (by decide) (by kernel_rfl) fun r45 => ?_)
      refine xo_ef rfl (ef_buildL (T := 102) (len := 4) (s := 1) (cells := #[.slice (some ⟨r42, 0, none⟩) 3 3, .slice (some ⟨r43, 0, none⟩) 3 3, .slice (some ⟨r44, 0, none⟩) 3 3, .slice (some ⟨r45, 0, none⟩) 3 3]) rfl (by decide) (by decide) (by kernel_rfl) fun r46 => ?_)
      focus
        refine xo_rd (rd_move rfl) rfl ?_
        refine xo_rd (rd_indexAddr rfl rfl (by omega) (by omega)) rfl ?_
        refine xo_rd (rd_load1 rfl (Cl.o0 rfl)) rfl ?_
        refine xo_rd (rd_assign rfl) rfl ?_
        refine xo_nil ?_
        refine xq_seq ?_
        refine xc_seq ?_
        refine xc_region ?_
        refine xo_rd (rd_move rfl) rfl ?_
        refine xo_rd (rd_neq rfl rfl) rfl ?_
        refine xo_rd (rd_move rfl) rfl ?_
        refine xo_grd rfl rfl (rd_move rfl) rfl ?_
        refine xo_gef rfl rfl rfl (ef_call rfl (XF.mono (hwt _ (fun z hz => List.mem_append_right [_, _, _, _, _] hz)) ?_))
        rintro v L' ⟨qw, kw, NW, rfl, hRw, rfl⟩
        refine xo_grd rfl rfl (rd_move rfl) rfl ?_
        refine xo_gef rfl rfl rfl (ef_call rfl (XF.mono (xf_sameIT qw (some ⟨r44, 0, none⟩) es2.length 3 kw 3 [1, 2, -1] [1, 2, -1] rfl (by rw [hel]; rfl) rfl hRw (Rs.fresh (vs := ints .i64 [1, 2, -1]) (T := 3) (fr := (0, 0)) (List.mem_append_right _ (by first | exact List.Mem.head _ | exact List.Mem.tail _ (List.Mem.head _) | exact List.Mem.tail _ (List.Mem.tail _ (List.Mem.head _)) | exact List.Mem.tail _ (List.Mem.tail _ (List.Mem.tail _ (List.Mem.head _))) | exact List.Mem.tail _ (List.Mem.tail _ (List.Mem.tail _ (List.Mem.tail _ (List.Mem.head _)))) | exact List.Mem.tail _ (List.Mem.tail _ (List.Mem.tail _ (List.Mem.tail _ (List.Mem.tail _ (List.Mem.head _))))) | exact List.Mem.tail _ (List.Mem.tail _ (List.Mem.tail _ (List.Mem.tail _ (List.Mem.tail _ (List.Mem.tail _ (List.Mem.head _)))))) | exact List.Mem.tail _ (List.Mem.tail _ (List.Mem.tail _ (List.Mem.tail _ (List.Mem.tail _ (List.Mem.tail _ (List.Mem.tail _ (List.Mem.head _)))))))))) (by omega)) ?_))
        rintro v L' ⟨rfl, rfl⟩
        refine xo_grd rfl rfl (rd_not rfl) rfl ?_
        refine xo_rd (rd_pickf rfl rfl) rfl ?_
        refine xo_nil ?_
        refine xq_seq ?_
        refine xc_condf rfl ?_
        refine xc_skip ?_
        refine xq_block ?_
        refine xq_seq ?_
        refine xc_region ?_
        refine xo_rd (rd_move rfl) rfl ?_
        refine xo_rd (rd_addn rfl rfl (by omega) (by omega)) rfl ?_
        refine xo_rd (rd_assign rfl) rfl ?_
        refine xo_nil ?_
      exact xq_roundK rfl 3 (by decide) (by decide) ((hsb.trans ((List.sublist_append_right l2 R).cons _)).trans ((List.sublist_append_right [_, _, _, _, _] _).trans (List.sublist_append_right NW _))) (by repeat (first | exact keep_nil | refine keep_cons rfl ?_))
    · skip
      focus
        refine xc_seq ?_
        refine xc_seq ?_
        refine xc_region ?_
        refine xo_rd (rd_move rfl) rfl ?_
        refine xo_rd (rd_lss rfl rfl) rfl ?_
        refine xo_nil ?_
        refine xq_seq ?_
        refine xc_condt rfl ?_
        refine xc_skip ?_
        refine xq_seq ?_
        refine xc_seq ?_
        refine xc_block ?_
        refine xc_seq ?_
        refine xc_region ?_
        refine xo_ef rfl (ef_call rfl (XF.mono (xf_NewE 2 true ⟨by decide, by decide⟩) ?_))
        rintro v L' ⟨r, rfl, rfl⟩
        refine xo_rd (rd_move rfl) rfl ?_
        refine xo_rd (rd_extract rfl rfl) rfl ?_
        refine xo_rd (rd_extract rfl rfl) rfl ?_
        refine xo_rd (rd_assign rfl) rfl ?_
        refine xo_rd (rd_assign rfl) rfl ?_
        refine xo_nil ?_
        refine xq_seq ?_
        refine xc_seq ?_
        refine xc_seq ?_
        refine xc_region ?_
        refine xo_rd (rd_move rfl) rfl ?_
        refine xo_rd (rd_neq rfl rfl) rfl ?_
        refine xo_nil ?_
        refine xq_seq ?_
        refine xc_condf rfl ?_
        refine xc_skip ?_
        refine xq_seq ?_
        refine xc_seq ?_
        refine xc_region ?_
        refine xo_rd (rd_move rfl) rfl ?_
        refine xo_rd (rd_move rfl) rfl ?_
        refine xo_rd (rd_eql rfl rfl) rfl ?_
        refine xo_ef rfl (ef_call rfl (XF.mono (xf_made (wKey 3) 1 1 ⟨by decide, by decide⟩) ?_))
        rintro v L' ⟨y, rfl, hya, hyo, rfl⟩
        refine xo_seg [_] y.i.f.bl _ ?_
        refine xo_ef rfl (ef_sliceA (vs := y.enc) rfl rfl (by rw [En.len]; decide) (by rw [En.len]; decide) fun r20 => ?_)
        refine xo_ef rfl (ef_call rfl (XF.mono ((xf_PutE (M := (r20, .cells y.enc.toArray 45 (0, 0)) :: (y.i.f.bl ++ L)) r 2 true false [] none 0 [] ⟨SlQ.nil, (fun e h => by cases h), (fun e h => by cases h), Nat.zero_le _⟩ (some ⟨r20, 0, none⟩) 1 1 [y] (rs_1 (List.Mem.head _)) rfl (fun e he => by rw [List.mem_singleton.1 he]; exact hyo.at.skip) (fun e he => by rw [List.mem_singleton.1 he]; exact madeF_few _ _ _ (congrArg Ea.f hya)) (by decide) [] [madeE (wKey 3) 1 1] _ _ rfl (by show [y.a] = _; rw [hya]) (w_1 3 (by decide))).perm (perm_w1 _ _ _)) ?_))
        rintro v L' ⟨es1, p1, c1, l1, N1, rfl, rfl, hok1, hm1⟩
        refine xo_rd (rd_assign rfl) rfl ?_
        refine xo_nil ?_
        refine xq_seq ?_
      have hl1 : es1.length = 1 := by
        have h := congrArg List.length hm1
        rw [List.length_map] at h
        exact h
      focus
        refine xc_seq ?_
        refine xc_seq ?_
        refine xc_region ?_
        refine xo_rd (rd_move rfl) rfl ?_
        refine xo_rd (rd_eql rfl rfl) rfl ?_
        refine xo_rd (rd_move rfl) rfl ?_
        refine xo_grd rfl rfl (rd_move rfl) rfl ?_
        refine xo_gef rfl rfl rfl (ef_call rfl (XF.mono ((by have h := xf_Begin (W := W) (R := l1 ++ (N1 ++ ((r20, .cells y.enc.toArray 45 (0, 0)) :: (y.i.f.bl ++ L)))) r 2 true false es1 p1 c1 hok1.o.rsl; rw [hm1, w_5 3 (by decide)] at h; exact h)) ?_))
        rintro v L' ⟨rfl, rfl⟩
        refine xo_grd rfl rfl (rd_not rfl) rfl ?_
        refine xo_rd (rd_pickt rfl rfl) rfl ?_
        refine xo_nil ?_
        refine xq_seq ?_
        refine xc_condf rfl ?_
        refine xc_skip ?_
        refine xq_seq ?_
      focus
        refine xc_seq ?_
        refine xc_region ?_
        refine xo_rd (rd_move rfl) rfl ?_
        refine xo_rd (rd_move rfl) rfl ?_
        refine xo_rd (rd_move rfl) rfl ?_
        refine xo_rd (rd_eql rfl rfl) rfl ?_
        refine xo_rd (rd_move rfl) rfl ?_
        refine xo_grd rfl rfl (rd_move rfl) rfl ?_
        refine xo_grd rfl rfl (rd_eql rfl rfl) rfl ?_
        refine xo_rd (rd_pickf rfl rfl) rfl ?_
        refine xo_ef rfl (ef_call rfl (XF.mono (xf_made (wKey2 3) 2 1 ⟨by decide, by decide⟩) ?_))
        rintro v L' ⟨y2, rfl, hya2, hyo2, rfl⟩
        refine xo_seg [_] y2.i.f.bl _ ?_
        refine xo_ef rfl (ef_call rfl (XF.mono (xf_made false 3 1 ⟨by decide, by decide⟩) ?_))
        rintro v L' ⟨y3, rfl, hya3, hyo3, rfl⟩
        refine xo_seg [_] y3.i.f.bl _ ?_
        refine xo_ef rfl (ef_buildL (T := 73) (len := 2) (s := 17) (cells := (y2.enc ++ y3.enc).toArray) rfl (by decide) (by decide) (by kernel_rfl) fun r39 => ?_)
        refine xo_ef rfl (ef_call rfl (XF.mono ((xf_PutE (M := (r39, .cells (y2.enc ++ y3.enc).toArray 45 (0, 0)) :: (y3.i.f.bl ++ (y2.i.f.bl ++ (N1 ++ ((r20, .cells y.enc.toArray 45 (0, 0)) :: (y.i.f.bl ++ L)))))) r 2 true true es1 p1 c1 l1 ⟨hok1.o, fun e he => (hok1.at' e he).mono (by intro z hz; simp [hz]), hok1.few, hok1.len⟩ (some ⟨r39, 0, none⟩) 2 2 [y2, y3] (rs_2 (List.Mem.head _)) rfl (at_2 hyo2 hyo3) (few_2 hya2 hya3) (by omega) [madeE (wKey 3) 1 1] [madeE (wKey2 3) 2 1, madeE false 3 1] _ _ hm1 (by show [y2.a, y3.a] = _; rw [hya2, hya3]) (w_2 3 (by decide))).perm (perm_w2 _ _ y3.i.f.bl y2.i.f.bl l1 (N1 ++ ((r20, .cells y.enc.toArray 45 (0, 0)) :: (y.i.f.bl ++ L))))) ?_))
        rintro v L' ⟨es2, p2, c2, l2, N2, rfl, rfl, hok2, hm2⟩
        refine xo_rd (rd_addn rfl rfl (by omega) (by omega)) rfl ?_
        refine xo_rd (rd_assign rfl) rfl ?_
        refine xo_nil ?_
        refine xq_seq ?_
      have hsb : L.Sublist (N2 ++ ((r39, .cells (y2.enc ++ y3.enc).toArray 45 (0, 0)) :: (y3.i.f.bl ++ (y2.i.f.bl ++ (N1 ++ ((r20, .cells y.enc.toArray 45 (0, 0)) :: (y.i.f.bl ++ L))))))) :=
        ((((((List.sublist_append_right y.i.f.bl L).cons _).trans (List.sublist_append_right N1 _)).trans (List.sublist_append_right y2.i.f.bl _)).trans (List.sublist_append_right y3.i.f.bl _)).cons _).trans (List.sublist_append_right N2 _)
      generalize (N2 ++ ((r39, Obj.cells (y2.enc ++ y3.enc).toArray 45 (0, 0)) :: (y3.i.f.bl ++ (y2.i.f.bl ++ (N1 ++ ((r20, Obj.cells y.enc.toArray 45 (0, 0)) :: (y.i.f.bl ++ L)))))) : List Blk) = R at *
      have hel : es2.length = 3 := by
        have h := congrArg List.length hm2
        rw [List.length_map] at h
        exact h
      have hqr2 : ∀ L', (∀ z, z ∈ ((r, Obj.cells (qcl 2 true true p2 es2.length c2).toArray 108 (0, 0)) :: (l2 ++ R) : List Blk) → z ∈ L') → QR W L' (Qs.mk r 2 true true es2 p2 c2 l2) := fun L' h => hok2.qr fun z hz => h z (List.mem_append_left _ hz)
      have hwt := fun L' (h : ∀ z, z ∈ ((r, Obj.cells (qcl 2 true true p2 es2.length c2).toArray 108 (0, 0)) :: (l2 ++ R) : List Blk) → z ∈ L') => xf_waits (Qs.mk r 2 true true es2 p2 c2 l2) (hqr2 L' h) (fun e he => (hok2.at' e he).mono fun z hz => h z (List.mem_cons_of_mem _ (List.mem_append_right _ hz))) hok2.few (by dsimp only; omega) (fun e he => w_4 3 (by decide) e.a (hm2 ▸ List.mem_map.2 ⟨e, he, rfl⟩))
      have hwe : waitsA (Qs.mk r 2 true true es2 p2 c2 l2).a = [1, 2, -1] := by
        show waitsA (es2.map En.a) = _
        rw [hm2]; exact w_3 3 (by decide)
      rw [hwe] at hwt
      refine xc_seq (xc_region ?_)
      refine xo_ef rfl (ef_buildL (T := 101) (len := 3) (s := 1) (cells := #[.int .i64 (-1), .int .i64 2, .int .i64 3]) rfl (by decide) (by decide) (by kernel_rfl) fun r42 => ?_)
      refine xo_ef rfl (ef_buildL (T := 101) (len := 3) (s := 1) (cells := #[.int .i64 (-1), .int .i64 2, .int .i64 3]) rfl (by decide) (by decide) (by kernel_rfl) fun r43 => ?_)
      refine xo_ef rfl (ef_buildL (T := 101) (len := 3) (s := 1) (cells := #[.int .i64 1, .int .i64 2, .int .i64 (-1)]) rfl (by decide) (by decide) (by kernel_rfl) fun r44 => ?_)
      refine xo_ef rfl (ef_buildL (T := 101) (len := 3) (s := 1) (cells := #[.int .i64 1, .int .i64 2, .int .i64 (-1)]) rfl (by decide) (by decide) (by kernel_rfl) fun r45 => ?_)
      refine xo_ef rfl (ef_buildL (T := 102) (len := 4) (s := 1) (cells := #[.slice (some ⟨r42, 0, none⟩) 3 3, .slice (some ⟨r43, 0, none⟩) 3 3, .slice (some ⟨r44, 0, none⟩) 3 3, .slice (some ⟨r45, 0, none⟩) 3 3]) rfl (by decide) (by decide) (by kernel_rfl) fun r46 => ?_)
      focus
        refine xo_rd (rd_move rfl) rfl ?_
        refine xo_rd (rd_indexAddr rfl rfl (by omega) (by omega)) rfl ?_
        refine xo_rd (rd_load1 rfl (Cl.o0 rfl)) rfl ?_
        refine xo_rd (rd_assign rfl) rfl ?_
        refine xo_nil ?_
        refine xq_seq ?_
        refine xc_seq ?_
        refine xc_region ?_
        refine xo_rd (rd_move rfl) rfl ?_
        refine xo_rd (rd_neq rfl rfl) rfl ?_
        refine xo_rd (rd_move rfl) rfl ?_
        refine xo_grd rfl rfl (rd_move rfl) rfl ?_
        refine xo_gef rfl rfl rfl (ef_call rfl (XF.mono (hwt _ (fun z hz => List.mem_append_right [_, _, _, _, _] hz)) ?_))
        rintro v L' ⟨qw, kw, NW, rfl, hRw, rfl⟩
        refine xo_grd rfl rfl (rd_move rfl) rfl ?_
        refine xo_gef rfl rfl rfl (ef_call rfl (XF.mono (xf_sameIT qw (some ⟨r45, 0, none⟩) es2.length 3 kw 3 [1, 2, -1] [1, 2, -1] rfl (by rw [hel]; rfl) rfl hRw (Rs.fresh (vs := ints .i64 [1, 2, -1]) (T := 3) (fr := (0, 0)) (List.mem_append_right _ (by first | exact List.Mem.head _ | exact List.Mem.tail _ (List.Mem.head _) | exact List.Mem.tail _ (List.Mem.tail _ (List.Mem.head _)) | exact List.Mem.tail _ (List.Mem.tail _ (List.Mem.tail _ (List.Mem.head _))) | exact List.Mem.tail _ (List.Mem.tail _ (List.Mem.tail _ (List.Mem.tail _ (List.Mem.head _)))) | exact List.Mem.tail _ (List.Mem.tail _ (List.Mem.tail _ (List.Mem.tail _ (List.Mem.tail _ (List.Mem.head _))))) | exact List.Mem.tail _ (List.Mem.tail _ (List.Mem.tail _ (List.Mem.tail _ (List.Mem.tail _ (List.Mem.tail _ (List.Mem.head _)))))) | exact List.Mem.tail _ (List.Mem.tail _ (List.Mem.tail _ (List.Mem.tail _ (List.Mem.tail _ (List.Mem.tail _ (List.Mem.tail _ (List.Mem.head _)))))))))) (by omega)) ?_))
        rintro v L' ⟨rfl, rfl⟩
        refine xo_grd rfl rfl (rd_not rfl) rfl ?_
        refine xo_rd (rd_pickf rfl rfl) rfl ?_
        refine xo_nil ?_
        refine xq_seq ?_
        refine xc_condf rfl ?_
        refine xc_skip ?_
        refine xq_block ?_
        refine xq_seq ?_
        refine xc_region ?_
        refine xo_rd (rd_move rfl) rfl ?_
        refine xo_rd (rd_addn rfl rfl (by omega) (by omega)) rfl ?_
        refine xo_rd (rd_assign rfl) rfl ?_
        refine xo_nil ?_
      exact xq_roundK rfl 4 (by decide) (by decide) ((hsb.trans ((List.sublist_append_right l2 R).cons _)).trans ((List.sublist_append_right [_, _, _, _, _] _).trans (List.sublist_append_right NW _))) (by repeat (first | exact keep_nil | refine keep_cons rfl ?_))
  · skip
    focus
      refine xc_seq ?_
      refine xc_seq ?_
      refine xc_region ?_
      refine xo_rd (rd_move rfl) rfl ?_
      refine xo_rd (rd_lss rfl rfl) rfl ?_
      refine xo_nil ?_
      refine xq_seq ?_
      refine xc_dec rfl (fun h1 => (by exfalso; omega)) (fun h1 => ?_)
      refine xc_exit ?_
      refine xq_then_exit ?_
      refine xq_then_exit ?_
      refine xq_block_hit ?_
      refine xq_seq ?_
      refine xc_seq ?_
      refine xc_region ?_
      refine xo_rd (rd_assign rfl) rfl ?_
      refine xo_nil ?_
      refine xq_seq ?_
      refine xc_ret ?_
    exact xq_ret1 (.inl rfl) Try.results9 rfl ⟨rfl, rfl⟩
end Go.Proofs.Ytpheiklhjelkcaa.X
/-
  Chapter 19: rows that are not there: a walk of my own.
-/
namespace Go.Proofs.Ytpheiklhjelkcaa.X
open Go Go.RowKit
set_option linter.unusedVariables false
set_option linter.unusedSimpArgs false
theorem xf_LenN {W : World} {L : List Blk} : XF Try.prog W 43 #[.pointer none] L (fun v L' => v = .int .i64 0 ∧ L' = L) := by
  refine xf_enter (args := [_]) Try.func43 rfl Try.ntmps43 rfl ?_
  focus
    refine xc_seq ?_
    refine xc_region ?_
    refine xo_rd (rd_assign rfl) rfl ?_
    refine xo_nil ?_
    refine xq_seq ?_
    refine xc_seq ?_
    refine xc_seq ?_
    refine xc_region ?_
    refine xo_rd (rd_move rfl) rfl ?_
    refine xo_rd (rd_eqnil rfl) rfl ?_
    refine xo_nil ?_
    refine xq_seq ?_
    refine xc_condt rfl ?_
    refine xc_seq ?_
    refine xc_region ?_
    refine xo_rd (rd_assign rfl) rfl ?_
    refine xo_nil ?_
    refine xq_seq ?_
    refine xc_ret ?_
    refine xq_then_ret ?_
  exact xq_ret1 (.inl rfl) Try.results43 rfl ⟨rfl, rfl⟩
theorem xf_AFirstN {W : World} {L : List Blk} : XF Try.prog W 39 #[.pointer none] L (fun v L' => v = .tuple #[.slice none 0 0, .bool false] ∧ L' = L) := by
  refine xf_enter (args := [_]) Try.func39 rfl Try.ntmps39 rfl ?_
  focus
    refine xc_seq ?_
    refine xc_region ?_
    refine xo_rd (rd_assign rfl) rfl ?_
    refine xo_rd (rd_assign rfl) rfl ?_
    refine xo_nil ?_
    refine xq_seq ?_
    refine xc_seq ?_
    refine xc_seq ?_
    refine xc_region ?_
    refine xo_rd (rd_move rfl) rfl ?_
    refine xo_ef rfl (ef_call rfl (XF.mono (xf_LenN) ?_))
    rintro v L' ⟨rfl, rfl⟩
    refine xo_rd (rd_eql rfl rfl) rfl ?_
    refine xo_nil ?_
    refine xq_seq ?_
    refine xc_condt rfl ?_
    refine xc_seq ?_
    refine xc_region ?_
    refine xo_rd (rd_assign rfl) rfl ?_
    refine xo_rd (rd_assign rfl) rfl ?_
    refine xo_nil ?_
    refine xq_seq ?_
    refine xc_ret ?_
    refine xq_then_ret ?_
  exact xq_ret2 (.inl rfl) Try.results39 rfl rfl ⟨rfl, rfl⟩
theorem xf_AShiftN {W : World} {L : List Blk} : XF Try.prog W 41 #[.pointer none] L (fun v L' => v = .tuple #[.slice none 0 0, .bool false] ∧ L' = L) := by
  refine xf_enter (args := [_]) Try.func41 rfl Try.ntmps41 rfl ?_
  focus
    refine xc_seq ?_
    refine xc_region ?_
    refine xo_rd (rd_assign rfl) rfl ?_
    refine xo_rd (rd_assign rfl) rfl ?_
    refine xo_nil ?_
    refine xq_seq ?_
    refine xc_seq ?_
    refine xc_region ?_
    refine xo_rd (rd_move rfl) rfl ?_
    refine xo_ef rfl (ef_call rfl (XF.mono (xf_AFirstN) ?_))
    rintro v L' ⟨rfl, rfl⟩
    refine xo_rd (rd_move rfl) rfl ?_
    refine xo_rd (rd_extract rfl rfl) rfl ?_
    refine xo_rd (rd_extract rfl rfl) rfl ?_
    refine xo_rd (rd_assign rfl) rfl ?_
    refine xo_rd (rd_assign rfl) rfl ?_
    refine xo_nil ?_
    refine xq_seq ?_
    refine xc_seq ?_
    refine xc_seq ?_
    refine xc_region ?_
    refine xo_rd (rd_move rfl) rfl ?_
    refine xo_nil ?_
    refine xq_seq ?_
    refine xc_condf rfl ?_
    refine xc_skip ?_
    refine xq_seq ?_
    refine xc_seq ?_
    refine xc_region ?_
    refine xo_rd (rd_move rfl) rfl ?_
    refine xo_rd (rd_move rfl) rfl ?_
    refine xo_rd (rd_assign rfl) rfl ?_
    refine xo_rd (rd_assign rfl) rfl ?_
    refine xo_nil ?_
    refine xq_seq ?_
    refine xc_ret ?_
  exact xq_ret2 (.inl rfl) Try.results41 rfl rfl ⟨rfl, rfl⟩
theorem xf_APutN {W : World} {L : List Blk} (s : Int) (p : Option Addr) (n c : Nat) : XF Try.prog W 42 #[.pointer none, .int .u16 s, .slice p n c] L (fun v L' => v = .bool false ∧ L' = L) := by
  refine xf_enter (args := [_, _, _]) Try.func42 rfl Try.ntmps42 rfl ?_
  focus
    refine xc_seq ?_
    refine xc_region ?_
    refine xo_ef rfl (ef_box rfl fun r4 => ?_)
    refine xo_rd (rd_assign rfl) rfl ?_
    refine xo_nil ?_
    refine xq_seq ?_
    refine xc_seq ?_
    refine xc_seq ?_
    refine xc_drawML [0, 1, 2, 4, 12, 20, 36, 4, 132, 260, 516, 1028, 2052, 4164, 8196, 24576, 32768, 98304, 163840, 294912, 32768, 1605632, 2129920] [0, 1, 2, 4, 12, 20, 36, 4, 132, 260, 516, 1028, 2052, 4164, 8196, 24576, 32768, 98304, 163840, 294912, 32768, 1605632, 2129920] (by kernel_rfl) (by kernel_rfl) (by kernel_rfl) ?_
    refine xm_take 0 (m' := 1) rfl (by kernel_rfl) (by first | exact Sb.refl | exact Sb.nil | (repeat (first | exact Sb.nil | exact Sb.refl | exact Sb.app0 | apply Sb.keep | apply Sb.keepApp | apply Sb.cons | apply Sb.app))) (rd_move rfl) rfl (by kernel_rfl) ?_
    refine xm_take 1 (m' := 3) rfl (by kernel_rfl) (by first | exact Sb.refl | exact Sb.nil | (repeat (first | exact Sb.nil | exact Sb.refl | exact Sb.app0 | apply Sb.keep | apply Sb.keepApp | apply Sb.cons | apply Sb.app))) (rd_eqnil rfl) rfl (by kernel_rfl) ?_
    refine xm_take 2 (m' := 7) rfl (by kernel_rfl) (by first | exact Sb.refl | exact Sb.nil | (repeat (first | exact Sb.nil | exact Sb.refl | exact Sb.app0 | apply Sb.keep | apply Sb.keepApp | apply Sb.cons | apply Sb.app))) (rd_move rfl) rfl (by kernel_rfl) ?_
    refine xm_gskip 3 (m' := 15) rfl (by kernel_rfl) (by first | exact Sb.refl | exact Sb.nil | (repeat (first | exact Sb.nil | exact Sb.refl | exact Sb.app0 | apply Sb.keep | apply Sb.keepApp | apply Sb.cons | apply Sb.app))) rfl rfl rfl rfl (by kernel_rfl) ?_
    refine xm_gskip 4 (m' := 31) rfl (by kernel_rfl) (by first | exact Sb.refl | exact Sb.nil | (repeat (first | exact Sb.nil | exact Sb.refl | exact Sb.app0 | apply Sb.keep | apply Sb.keepApp | apply Sb.cons | apply Sb.app))) rfl rfl rfl rfl (by kernel_rfl) ?_
    refine xm_gskip 5 (m' := 63) rfl (by kernel_rfl) (by first | exact Sb.refl | exact Sb.nil | (repeat (first | exact Sb.nil | exact Sb.refl | exact Sb.app0 | apply Sb.keep | apply Sb.keepApp | apply Sb.cons | apply Sb.app))) rfl rfl rfl rfl (by kernel_rfl) ?_
    refine xm_gskip 6 (m' := 127) rfl (by kernel_rfl) (by first | exact Sb.refl | exact Sb.nil | (repeat (first | exact Sb.nil | exact Sb.refl | exact Sb.app0 | apply Sb.keep | apply Sb.keepApp | apply Sb.cons | apply Sb.app))) rfl rfl rfl rfl (by kernel_rfl) ?_
    refine xm_gskip 7 (m' := 255) rfl (by kernel_rfl) (by first | exact Sb.refl | exact Sb.nil | (repeat (first | exact Sb.nil | exact Sb.refl | exact Sb.app0 | apply Sb.keep | apply Sb.keepApp | apply Sb.cons | apply Sb.app))) rfl rfl rfl rfl (by kernel_rfl) ?_
    refine xm_gskip 8 (m' := 511) rfl (by kernel_rfl) (by first | exact Sb.refl | exact Sb.nil | (repeat (first | exact Sb.nil | exact Sb.refl | exact Sb.app0 | apply Sb.keep | apply Sb.keepApp | apply Sb.cons | apply Sb.app))) rfl rfl rfl rfl (by kernel_rfl) ?_
    refine xm_gskip 9 (m' := 1023) rfl (by kernel_rfl) (by first | exact Sb.refl | exact Sb.nil | (repeat (first | exact Sb.nil | exact Sb.refl | exact Sb.app0 | apply Sb.keep | apply Sb.keepApp | apply Sb.cons | apply Sb.app))) rfl rfl rfl rfl (by kernel_rfl) ?_
    refine xm_gskip 10 (m' := 2047) rfl (by kernel_rfl) (by first | exact Sb.refl | exact Sb.nil | (repeat (first | exact Sb.nil | exact Sb.refl | exact Sb.app0 | apply Sb.keep | apply Sb.keepApp | apply Sb.cons | apply Sb.app))) rfl rfl rfl rfl (by kernel_rfl) ?_
    refine xm_gskip 11 (m' := 4095) rfl (by kernel_rfl) (by first | exact Sb.refl | exact Sb.nil | (repeat (first | exact Sb.nil | exact Sb.refl | exact Sb.app0 | apply Sb.keep | apply Sb.keepApp | apply Sb.cons | apply Sb.app))) rfl rfl rfl rfl (by kernel_rfl) ?_
    refine xm_gskip 12 (m' := 8191) rfl (by kernel_rfl) (by first | exact Sb.refl | exact Sb.nil | (repeat (first | exact Sb.nil | exact Sb.refl | exact Sb.app0 | apply Sb.keep | apply Sb.keepApp | apply Sb.cons | apply Sb.app))) rfl rfl rfl rfl (by kernel_rfl) ?_
    refine xm_gskip 13 (m' := 16383) rfl (by kernel_rfl) (by first | exact Sb.refl | exact Sb.nil | (repeat (first | exact Sb.nil | exact Sb.refl | exact Sb.app0 | apply Sb.keep | apply Sb.keepApp | apply Sb.cons | apply Sb.app))) rfl rfl rfl rfl (by kernel_rfl) ?_
    refine xm_take 14 (m' := 32767) rfl (by kernel_rfl) (by first | exact Sb.refl | exact Sb.nil | (repeat (first | exact Sb.nil | exact Sb.refl | exact Sb.app0 | apply Sb.keep | apply Sb.keepApp | apply Sb.cons | apply Sb.app))) (rd_pickt rfl rfl) rfl (by kernel_rfl) ?_
    refine xm_take 15 (m' := 65535) rfl (by kernel_rfl) (by first | exact Sb.refl | exact Sb.nil | (repeat (first | exact Sb.nil | exact Sb.refl | exact Sb.app0 | apply Sb.keep | apply Sb.keepApp | apply Sb.cons | apply Sb.app))) (rd_move rfl) rfl (by kernel_rfl) ?_
    refine xm_gskip 16 (m' := 131071) rfl (by kernel_rfl) (by first | exact Sb.refl | exact Sb.nil | (repeat (first | exact Sb.nil | exact Sb.refl | exact Sb.app0 | apply Sb.keep | apply Sb.keepApp | apply Sb.cons | apply Sb.app))) rfl rfl rfl rfl (by kernel_rfl) ?_
    refine xm_gskip 17 (m' := 262143) rfl (by kernel_rfl) (by first | exact Sb.refl | exact Sb.nil | (repeat (first | exact Sb.nil | exact Sb.refl | exact Sb.app0 | apply Sb.keep | apply Sb.keepApp | apply Sb.cons | apply Sb.app))) rfl rfl rfl rfl (by kernel_rfl) ?_
    refine xm_gskip 18 (m' := 524287) rfl (by kernel_rfl) (by first | exact Sb.refl | exact Sb.nil | (repeat (first | exact Sb.nil | exact Sb.refl | exact Sb.app0 | apply Sb.keep | apply Sb.keepApp | apply Sb.cons | apply Sb.app))) rfl rfl rfl rfl (by kernel_rfl) ?_
    refine xm_gskip 19 (m' := 1048575) rfl (by kernel_rfl) (by first | exact Sb.refl | exact Sb.nil | (repeat (first | exact Sb.nil | exact Sb.refl | exact Sb.app0 | apply Sb.keep | apply Sb.keepApp | apply Sb.cons | apply Sb.app))) rfl rfl rfl rfl (by kernel_rfl) ?_
    refine xm_gskip 20 (m' := 2097151) rfl (by kernel_rfl) (by first | exact Sb.refl | exact Sb.nil | (repeat (first | exact Sb.nil | exact Sb.refl | exact Sb.app0 | apply Sb.keep | apply Sb.keepApp | apply Sb.cons | apply Sb.app))) rfl rfl rfl rfl (by kernel_rfl) ?_
    refine xm_gskip 21 (m' := 4194303) rfl (by kernel_rfl) (by first | exact Sb.refl | exact Sb.nil | (repeat (first | exact Sb.nil | exact Sb.refl | exact Sb.app0 | apply Sb.keep | apply Sb.keepApp | apply Sb.cons | apply Sb.app))) rfl rfl rfl rfl (by kernel_rfl) ?_
    refine xm_take 22 (m' := 8388607) rfl (by kernel_rfl) (by first | exact Sb.refl | exact Sb.nil | (repeat (first | exact Sb.nil | exact Sb.refl | exact Sb.app0 | apply Sb.keep | apply Sb.keepApp | apply Sb.cons | apply Sb.app))) (rd_pickt rfl rfl) rfl (by kernel_rfl) ?_
    refine xm_done (by kernel_rfl) ?_
    refine xq_seq ?_
    refine xc_condt rfl ?_
    refine xc_seq ?_
    refine xc_region ?_
    refine xo_rd (rd_assign rfl) rfl ?_
    refine xo_nil ?_
    refine xq_seq ?_
    refine xc_ret ?_
    refine xq_then_ret ?_
  exact xq_tail (xq_ret1 (.inl rfl) Try.results42 rfl ⟨rfl, rfl⟩)
set_option maxHeartbeats 1600000 in
theorem xf_ClassesNone {W : World} {L : List Blk} (e : En) (he : e.i.f.At W L) (s : Int) : XF Try.prog W 6 #[.agg e.enc.toArray, .int .u16 s] L (fun v L' => v = .bool true ∧ L' = L) := by
  refine xf_enter (args := [_, _]) Try.func6 rfl Try.ntmps6 rfl ?_
  focus
    refine xc_seq ?_
    refine xc_region ?_
    refine xo_ef rfl (ef_box rfl fun r2 => ?_)
    refine xo_rd (rd_assign rfl) rfl ?_
    refine xo_nil ?_
    refine xq_seq ?_
    refine xc_seq ?_
    refine xc_seq ?_
    refine xc_region ?_
    refine xo_rd (rd_fieldAddr rfl) rfl ?_
    refine xo_rd (rd_fieldAddr rfl) rfl ?_
    refine xo_rd (rd_loadA (vs := e.i.f.enc) rfl rfl (cl_sub (b := r2) (vs := e.enc) (T := 45) (fr := (0, 0)) _ (by first | exact List.Mem.head _ | exact List.Mem.tail _ (List.Mem.head _) | exact List.Mem.tail _ (List.Mem.tail _ (List.Mem.head _)) | exact List.Mem.tail _ (List.Mem.tail _ (List.Mem.tail _ (List.Mem.head _))) | exact List.Mem.tail _ (List.Mem.tail _ (List.Mem.tail _ (List.Mem.tail _ (List.Mem.head _)))) | exact List.Mem.tail _ (List.Mem.tail _ (List.Mem.tail _ (List.Mem.tail _ (List.Mem.tail _ (List.Mem.head _))))) | exact List.Mem.tail _ (List.Mem.tail _ (List.Mem.tail _ (List.Mem.tail _ (List.Mem.tail _ (List.Mem.tail _ (List.Mem.head _)))))) | exact List.Mem.tail _ (List.Mem.tail _ (List.Mem.tail _ (List.Mem.tail _ (List.Mem.tail _ (List.Mem.tail _ (List.Mem.tail _ (List.Mem.head _)))))))) rfl)) rfl ?_
    refine xo_ef rfl (ef_call rfl (XF.mono (xf_FewFrame e.i.f (he.mono (by intro z hz; simp [hz]))) ?_))
    rintro v L' ⟨b, rfl, hb, rfl⟩
    refine xo_rd (rd_not rfl) rfl ?_
    refine xo_nil ?_
    refine xq_seq ?_
    refine xc_cond rfl (fun hz1 => ?_) (fun hz1 => ?_)
    refine xc_seq ?_
    refine xc_region ?_
    refine xo_ef rfl (ef_call rfl (XF.mono (xf_works) ?_))
    rintro v L' ⟨rfl, rfl⟩
    refine xo_rd (rd_assign rfl) rfl ?_
    refine xo_nil ?_
    refine xq_seq ?_
    refine xc_ret ?_
    refine xq_then_ret ?_
    rotate_left
    refine xc_skip ?_
    refine xq_seq ?_
    rotate_left
  · exact xq_tail (xq_ret1 (.inl rfl) Try.results6 rfl ⟨rfl, rfl⟩)
  focus
    refine xc_seq ?_
    refine xc_region ?_
    refine xo_rd (rd_assign rfl) rfl ?_
    refine xo_nil ?_
    refine xq_seq ?_
    refine xc_seq ?_
    refine xc_region ?_
    refine xo_rd (rd_assign rfl) rfl ?_
    refine xo_nil ?_
    refine xq_seq ?_
    refine xc_seq ?_
    refine xc_region ?_
    refine xo_rd (rd_move rfl) rfl ?_
    refine xo_ef rfl (ef_call rfl (XF.mono (xf_FirstN) ?_))
    rintro v L' ⟨rfl, rfl⟩
    refine xo_rd (rd_move rfl) rfl ?_
    refine xo_rd (rd_extract rfl rfl) rfl ?_
    refine xo_rd (rd_extract rfl rfl) rfl ?_
    refine xo_ef rfl (ef_alloc fun r7 => ?_)
    refine xo_ef rfl (ef_storeB [] _ rfl rfl (by first | rfl | assumption) rfl rfl rfl ?_)
    refine xo_rd (rd_assign rfl) rfl ?_
    refine xo_nil ?_
    refine xq_seq ?_
    refine xc_seq ?_
    refine xc_region ?_
    refine xo_rd (rd_move rfl) rfl ?_
    refine xo_ef rfl (ef_call rfl (XF.mono (xf_ShiftN) ?_))
    rintro v L' ⟨rfl, rfl⟩
    refine xo_rd (rd_move rfl) rfl ?_
    refine xo_rd (rd_extract rfl rfl) rfl ?_
    refine xo_rd (rd_extract rfl rfl) rfl ?_
    refine xo_ef rfl (ef_alloc fun r9 => ?_)
    refine xo_ef rfl (ef_storeB [] _ rfl rfl (by first | rfl | assumption) rfl rfl rfl ?_)
    refine xo_rd (rd_assign rfl) rfl ?_
    refine xo_nil ?_
    refine xq_seq ?_
    refine xc_seq ?_
    refine xc_region ?_
    refine xo_rd (rd_move rfl) rfl ?_
    refine xo_ef rfl (ef_call rfl (XF.mono (xf_AFirstN) ?_))
    rintro v L' ⟨rfl, rfl⟩
    refine xo_rd (rd_move rfl) rfl ?_
    refine xo_rd (rd_extract rfl rfl) rfl ?_
    refine xo_rd (rd_extract rfl rfl) rfl ?_
    refine xo_rd (rd_assign rfl) rfl ?_
    refine xo_rd (rd_assign rfl) rfl ?_
    refine xo_nil ?_
    refine xq_seq ?_
    refine xc_seq ?_
    refine xc_region ?_
    refine xo_rd (rd_move rfl) rfl ?_
    refine xo_ef rfl (ef_call rfl (XF.mono (xf_AShiftN) ?_))
    rintro v L' ⟨rfl, rfl⟩
    refine xo_rd (rd_move rfl) rfl ?_
    refine xo_rd (rd_extract rfl rfl) rfl ?_
    refine xo_rd (rd_extract rfl rfl) rfl ?_
    refine xo_rd (rd_assign rfl) rfl ?_
    refine xo_rd (rd_assign rfl) rfl ?_
    refine xo_nil ?_
    refine xq_seq ?_
  focus
    refine xc_seq ?_
    refine xc_region ?_
    refine xo_rd (rd_move rfl) rfl ?_
    refine xo_rd (rd_loadB rfl Kn.o2 (by rfl)) rfl ?_
    refine xo_ef rfl (ef_sliceA (vs := e.enc) rfl rfl (by rw [En.len]; decide) (by rw [En.len]; decide) fun r43 => ?_)
    refine xo_ef rfl (ef_call rfl (XF.mono (xf_Put0 _ _ _) ?_))
    rintro v L' ⟨rfl, rfl⟩
    refine xo_rd (rd_eql rfl rfl) rfl ?_
    refine xo_rd (rd_move rfl) rfl ?_
    refine xo_grd rfl rfl (rd_move rfl) rfl ?_
    refine xo_grd rfl rfl (rd_not rfl) rfl ?_
    refine xo_rd (rd_pickt rfl rfl) rfl ?_
    refine xo_rd (rd_move rfl) rfl ?_
    refine xo_grd rfl rfl (rd_move rfl) rfl ?_
    refine xo_gef rfl rfl rfl (ef_call rfl (XF.mono (xf_BeginN) ?_))
    rintro v L' ⟨rfl, rfl⟩
    refine xo_grd rfl rfl (rd_not rfl) rfl ?_
    refine xo_rd (rd_pickt rfl rfl) rfl ?_
    refine xo_rd (rd_move rfl) rfl ?_
    refine xo_grd rfl rfl (rd_move rfl) rfl ?_
    refine xo_gef rfl rfl rfl (ef_call rfl (XF.mono (xf_BegunN) ?_))
    rintro v L' ⟨rfl, rfl⟩
    refine xo_grd rfl rfl (rd_not rfl) rfl ?_
    refine xo_rd (rd_pickt rfl rfl) rfl ?_
    refine xo_rd (rd_move rfl) rfl ?_
    refine xo_grd rfl rfl (rd_move rfl) rfl ?_
    refine xo_grd rfl rfl (rd_not rfl) rfl ?_
    refine xo_rd (rd_pickt rfl rfl) rfl ?_
    refine xo_rd (rd_move rfl) rfl ?_
    refine xo_grd rfl rfl (rd_move rfl) rfl ?_
    refine xo_gef rfl rfl rfl (ef_call rfl (XF.mono (xf_FramesN) ?_))
    rintro v L' ⟨rfl, rfl⟩
    refine xo_grd rfl rfl (rd_eql rfl rfl) rfl ?_
    refine xo_rd (rd_pickt rfl rfl) rfl ?_
    refine xo_rd (rd_move rfl) rfl ?_
    refine xo_grd rfl rfl (rd_move rfl) rfl ?_
    refine xo_gef rfl rfl rfl (ef_call rfl (XF.mono (xf_HasN _ _) ?_))
    rintro v L' ⟨rfl, rfl⟩
    refine xo_grd rfl rfl (rd_not rfl) rfl ?_
    refine xo_rd (rd_pickt rfl rfl) rfl ?_
    refine xo_rd (rd_move rfl) rfl ?_
    refine xo_grd rfl rfl (rd_move rfl) rfl ?_
    refine xo_gef rfl rfl rfl (ef_call rfl (XF.mono (xf_AllN) ?_))
    rintro v L' ⟨rfl, rfl⟩
    refine xo_grd rfl rfl (rd_len rfl) rfl ?_
    refine xo_grd rfl rfl (rd_eql rfl rfl) rfl ?_
    refine xo_rd (rd_pickt rfl rfl) rfl ?_
    refine xo_rd (rd_move rfl) rfl ?_
    refine xo_grd rfl rfl (rd_move rfl) rfl ?_
    refine xo_grd rfl rfl (rd_move rfl) rfl ?_
    refine xo_gef rfl rfl rfl (ef_call rfl (XF.mono (xf_APutN _ _ _ _) ?_))
    rintro v L' ⟨rfl, rfl⟩
    refine xo_grd rfl rfl (rd_not rfl) rfl ?_
    refine xo_rd (rd_pickt rfl rfl) rfl ?_
    refine xo_rd (rd_move rfl) rfl ?_
    refine xo_grd rfl rfl (rd_move rfl) rfl ?_
    refine xo_grd rfl rfl (rd_not rfl) rfl ?_
    refine xo_rd (rd_pickt rfl rfl) rfl ?_
    refine xo_rd (rd_move rfl) rfl ?_
    refine xo_grd rfl rfl (rd_move rfl) rfl ?_
    refine xo_grd rfl rfl (rd_not rfl) rfl ?_
    refine xo_rd (rd_pickt rfl rfl) rfl ?_
    refine xo_rd (rd_move rfl) rfl ?_
    refine xo_grd rfl rfl (rd_move rfl) rfl ?_
    refine xo_gef rfl rfl rfl (ef_call rfl (XF.mono (xf_LenN) ?_))
    rintro v L' ⟨rfl, rfl⟩
    refine xo_grd rfl rfl (rd_eql rfl rfl) rfl ?_
    refine xo_rd (rd_pickt rfl rfl) rfl ?_
    refine xo_rd (rd_move rfl) rfl ?_
    refine xo_gef rfl rfl rfl (ef_call rfl (XF.mono (xf_works) ?_))
    rintro v L' ⟨rfl, rfl⟩
    refine xo_rd (rd_pickt rfl rfl) rfl ?_
    refine xo_rd (rd_assign rfl) rfl ?_
    refine xo_nil ?_
    refine xq_seq ?_
    refine xc_ret ?_
  exact xq_sub (List.sublist_append_right [_, _, _, _] _) (xq_ret1 (.inl rfl) Try.results6 rfl ⟨rfl, rfl⟩)
end Go.Proofs.Ytpheiklhjelkcaa.X
/-
  Chapter 19: packets that are sent again: walks of my own.
-/
namespace Go.Proofs.Ytpheiklhjelkcaa.X
open Go Go.RowKit
set_option linter.unusedVariables false
set_option linter.unusedSimpArgs false
/-- A packet that is sent again. -/
structure Pk where
  s : Int
  b : List Int
  p : Option Addr
  c : Nat
def Pk.enc (x : Pk) : List Value := [.int .u16 x.s, .slice x.p x.b.length x.c]
theorem Pk.len (x : Pk) : x.enc.length = 2 := rfl
theorem Pk.one (x : Pk) : x.enc.all (·.oneCell') = true := rfl
def acl (most : Int) (p : Option Addr) (n c : Nat) : List Value := [.int .i64 most, .slice p n c]
/-- A row of packets that are read. -/
structure PkR (W : World) (L : List Blk) (es : List Pk) : Prop where
  b : ∀ e, e ∈ es → Rs W L e.p (ints .u8 e.b)
  n : ∀ e, e ∈ es → e.b.length ≤ 1000
theorem PkR.mono {W : World} {L L' : List Blk} {es : List Pk} (h : PkR W L es) (hm : ∀ z, z ∈ L → z ∈ L') : PkR W L' es := ⟨fun e he => (h.b e he).mono hm, h.n⟩
theorem xf_NewA {W : World} {L : List Blk} (b : Int) (hb : 1 ≤ b ∧ b ≤ 256) : XF Try.prog W 38 #[.int .i64 b] L (fun v L' => ∃ r, v = .tuple #[.pointer (some ⟨r, 0, none⟩), .int .i64 0] ∧ L' = (r, .cells (acl b none 0 0).toArray 127 (0, 0)) :: L) := by
  refine xf_enter (args := [_]) Try.func38 rfl Try.ntmps38 rfl ?_
  focus
    refine xc_seq ?_
    refine xc_region ?_
    refine xo_rd (rd_assign rfl) rfl ?_
    refine xo_rd (rd_assign rfl) rfl ?_
    refine xo_nil ?_
    refine xq_seq ?_
    refine xc_seq ?_
    refine xc_region ?_
    refine xo_rd (rd_move rfl) rfl ?_
    refine xo_rd (rd_build rfl rfl rfl) rfl ?_
    refine xo_ef rfl (ef_alloc fun r4 => ?_)
    refine xo_ef rfl (ef_storeB [] _ rfl rfl (by first | rfl | assumption) rfl rfl rfl ?_)
    refine xo_nil ?_
    refine xq_seq ?_
    refine xc_seq ?_
    refine xc_seq ?_
    refine xc_region ?_
    refine xo_rd (rd_loadB rfl Kn.o0 (by rfl)) rfl ?_
    refine xo_ef rfl (ef_call rfl (XF.mono (xf_right b) ?_))
    rintro v L' ⟨rfl, rfl⟩
    refine xo_rd (rd_not rfl) rfl ?_
    refine xo_nil ?_
    refine xq_seq ?_
    refine xc_cond rfl (fun hz1 => ?_) (fun hz1 => ?_)
    refine xc_seq ?_
    refine xc_region ?_
    refine xo_rd (rd_assign rfl) rfl ?_
    refine xo_rd (rd_assign rfl) rfl ?_
    refine xo_nil ?_
    refine xq_seq ?_
    refine xc_ret ?_
    refine xq_then_ret ?_
    rotate_left
    refine xc_skip ?_
    refine xq_seq ?_
    refine xc_seq ?_
    refine xc_region ?_
    refine xo_rd (rd_loadB rfl Kn.o0 (by rfl)) rfl ?_
    refine xo_rd (rd_cast (v' := .agg (acl b none 0 0).toArray) (rd_build (T := 127) rfl rfl rfl) (by kernel_rfl)) rfl ?_
    refine xo_ef rfl (ef_box rfl fun r12 => ?_)
    refine xo_rd (rd_assign rfl) rfl ?_
    refine xo_rd (rd_assign rfl) rfl ?_
    refine xo_nil ?_
    refine xq_seq ?_
    refine xc_ret ?_
    rotate_left
  · exfalso
    rw [decide_eq_true hb.1, decide_eq_true hb.2] at hz1
    cases hz1
  · exact xq_sub (List.Sublist.cons_cons _ (List.sublist_cons_self _ _)) (xq_ret2 (.inl rfl) Try.results38 rfl rfl ⟨r12, rfl, rfl⟩)
theorem xf_NewA0 {W : World} {L : List Blk} (b : Int) (hb : ¬ (1 ≤ b ∧ b ≤ 256)) : XF Try.prog W 38 #[.int .i64 b] L (fun v L' => v = .tuple #[.pointer none, .int .i64 2] ∧ L' = L) := by
  refine xf_enter (args := [_]) Try.func38 rfl Try.ntmps38 rfl ?_
  focus
    refine xc_seq ?_
    refine xc_region ?_
    refine xo_rd (rd_assign rfl) rfl ?_
    refine xo_rd (rd_assign rfl) rfl ?_
    refine xo_nil ?_
    refine xq_seq ?_
    refine xc_seq ?_
    refine xc_region ?_
    refine xo_rd (rd_move rfl) rfl ?_
    refine xo_rd (rd_build rfl rfl rfl) rfl ?_
    refine xo_ef rfl (ef_alloc fun r4 => ?_)
    refine xo_ef rfl (ef_storeB [] _ rfl rfl (by first | rfl | assumption) rfl rfl rfl ?_)
    refine xo_nil ?_
    refine xq_seq ?_
    refine xc_seq ?_
    refine xc_seq ?_
    refine xc_region ?_
    refine xo_rd (rd_loadB rfl Kn.o0 (by rfl)) rfl ?_
    refine xo_ef rfl (ef_call rfl (XF.mono (xf_right b) ?_))
    rintro v L' ⟨rfl, rfl⟩
    refine xo_rd (rd_not rfl) rfl ?_
    refine xo_nil ?_
    refine xq_seq ?_
    refine xc_cond rfl (fun hz1 => ?_) (fun hz1 => ?_)
    refine xc_seq ?_
    refine xc_region ?_
    refine xo_rd (rd_assign rfl) rfl ?_
    refine xo_rd (rd_assign rfl) rfl ?_
    refine xo_nil ?_
    refine xq_seq ?_
    refine xc_ret ?_
    refine xq_then_ret ?_
    rotate_left
    refine xc_skip ?_
    refine xq_seq ?_
    refine xc_seq ?_
    refine xc_region ?_
    refine xo_rd (rd_loadB rfl Kn.o0 (by rfl)) rfl ?_
    refine xo_rd (rd_build rfl rfl rfl) rfl ?_
    refine xo_ef rfl (ef_box rfl fun r12 => ?_)
    refine xo_rd (rd_assign rfl) rfl ?_
    refine xo_rd (rd_assign rfl) rfl ?_
    refine xo_nil ?_
    refine xq_seq ?_
    refine xc_ret ?_
    rotate_left
  · exact xq_sub (List.sublist_cons_self _ _) (xq_ret2 (.inl rfl) Try.results38 rfl rfl ⟨rfl, rfl⟩)
  · exfalso
    apply hb
    simpa using hz1
theorem xf_ALen {W : World} {L : List Blk} (r : Nat) (p : Option Addr) (n c : Nat) (h : Cl W L r 1 (.slice p n c)) : XF Try.prog W 43 #[.pointer (some ⟨r, 0, none⟩)] L (fun v L' => v = .int .i64 n ∧ L' = L) := by
  refine xf_enter (args := [_]) Try.func43 rfl Try.ntmps43 rfl ?_
  focus
    refine xc_seq ?_
    refine xc_region ?_
    refine xo_rd (rd_assign rfl) rfl ?_
    refine xo_nil ?_
    refine xq_seq ?_
    refine xc_seq ?_
    refine xc_seq ?_
    refine xc_region ?_
    refine xo_rd (rd_move rfl) rfl ?_
    refine xo_rd (rd_eqnil rfl) rfl ?_
    refine xo_nil ?_
    refine xq_seq ?_
    refine xc_condf rfl ?_
    refine xc_skip ?_
    refine xq_seq ?_
    refine xc_seq ?_
    refine xc_region ?_
    refine xo_rd (rd_move rfl) rfl ?_
    refine xo_rd (rd_nilCheck rfl) rfl ?_
    refine xo_rd (rd_fieldAddr rfl) rfl ?_
    refine xo_rd (rd_load1 rfl h) rfl ?_
    refine xo_rd (rd_len rfl) rfl ?_
    refine xo_rd (rd_assign rfl) rfl ?_
    refine xo_nil ?_
    refine xq_seq ?_
    refine xc_ret ?_
  exact xq_ret1 (.inl rfl) Try.results43 rfl ⟨rfl, rfl⟩
theorem xf_AFirst0 {W : World} {L : List Blk} (r : Nat) (p : Option Addr) (c : Nat) (h : Cl W L r 1 (.slice p 0 c)) : XF Try.prog W 39 #[.pointer (some ⟨r, 0, none⟩)] L (fun v L' => v = .tuple #[.slice none 0 0, .bool false] ∧ L' = L) := by
  refine xf_enter (args := [_]) Try.func39 rfl Try.ntmps39 rfl ?_
  focus
    refine xc_seq ?_
    refine xc_region ?_
    refine xo_rd (rd_assign rfl) rfl ?_
    refine xo_rd (rd_assign rfl) rfl ?_
    refine xo_nil ?_
    refine xq_seq ?_
    refine xc_seq ?_
    refine xc_seq ?_
    refine xc_region ?_
    refine xo_rd (rd_move rfl) rfl ?_
    refine xo_ef rfl (ef_call rfl (XF.mono (xf_ALen r p 0 c h) ?_))
    rintro v L' ⟨rfl, rfl⟩
    refine xo_rd (rd_eql rfl rfl) rfl ?_
    refine xo_nil ?_
    refine xq_seq ?_
    refine xc_condt rfl ?_
    refine xc_seq ?_
    refine xc_region ?_
    refine xo_rd (rd_assign rfl) rfl ?_
    refine xo_rd (rd_assign rfl) rfl ?_
    refine xo_nil ?_
    refine xq_seq ?_
    refine xc_ret ?_
    refine xq_then_ret ?_
  exact xq_ret2 (.inl rfl) Try.results39 rfl rfl ⟨rfl, rfl⟩
theorem xf_AFirst {W : World} {L : List Blk} (r : Nat) (p : Option Addr) (c : Nat) (e : Pk) (es : List Pk) (h : Cl W L r 1 (.slice p (es.length + 1) c)) (hr : Rs W L p ((e :: es).flatMap Pk.enc)) (hb : Rs W L e.p (ints .u8 e.b)) (hn : e.b.length ≤ 1000) :
    XF Try.prog W 39 #[.pointer (some ⟨r, 0, none⟩)] L (fun v L' => ∃ q k l, v = .tuple #[.slice q e.b.length k, .bool true] ∧ SlO 1 5 (.slice q e.b.length k) e.b.length (ints .u8 e.b) l ∧ L' = l ++ L) := by
  obtain ⟨bb, o, hp, hc⟩ := hr.rows Pk.len (by decide) (Nat.succ_pos _)
  subst hp
  have hc0 := hc 0 (Nat.succ_pos _) 1 _ rfl
  have hc1 : Cl W L bb (o + (0 : Int).toNat * 2 + 1) (.slice e.p e.b.length e.c) := hc0
  refine xf_enter (args := [_]) Try.func39 rfl Try.ntmps39 rfl ?_
  focus
    refine xc_seq ?_
    refine xc_region ?_
    refine xo_rd (rd_assign rfl) rfl ?_
    refine xo_rd (rd_assign rfl) rfl ?_
    refine xo_nil ?_
    refine xq_seq ?_
    refine xc_seq ?_
    refine xc_seq ?_
    refine xc_region ?_
    refine xo_rd (rd_move rfl) rfl ?_
    refine xo_ef rfl (ef_call rfl (XF.mono (xf_ALen r _ _ c h) ?_))
    rintro v L' ⟨rfl, rfl⟩
    refine xo_rd (rd_eql rfl rfl) rfl ?_
    refine xo_nil ?_
    refine xq_seq ?_
    refine xc_condf rfl ?_
    refine xc_skip ?_
    refine xq_seq ?_
    refine xc_seq ?_
    refine xc_region ?_
    refine xo_rd (rd_move rfl) rfl ?_
    refine xo_rd (rd_nilCheck rfl) rfl ?_
    refine xo_rd (rd_fieldAddr rfl) rfl ?_
    refine xo_rd (rd_load1 rfl h) rfl ?_
    refine xo_rd (rd_indexAddr rfl rfl (by omega) (by omega)) rfl ?_
    refine xo_rd (rd_fieldAddr rfl) rfl ?_
    refine xo_rd (rd_load1 rfl hc1) rfl ?_
    refine xo_ef rfl (ef_call rfl (XF.mono (xf_clone e.p e.b.length e.c (ints .u8 e.b) (by rw [ints_len, Nat.mul_one]) hb (ints_one _ _) (by omega)) ?_))
    rintro v L' ⟨q, k, l, rfl, hO, hk, rfl⟩
    refine xo_rd (rd_assign rfl) rfl ?_
    refine xo_rd (rd_assign rfl) rfl ?_
    refine xo_nil ?_
    refine xq_seq ?_
    refine xc_ret ?_
  exact xq_ret2 (.inl rfl) Try.results39 rfl rfl ⟨q, k, l, rfl, hO, rfl⟩
end Go.Proofs.Ytpheiklhjelkcaa.X
/-
  Chapter 19: packets that are sent again, put and shifted: walks of my own.
-/
namespace Go.Proofs.Ytpheiklhjelkcaa.X
open Go Go.RowKit
set_option linter.unusedVariables false
set_option linter.unusedSimpArgs false
theorem xf_AShift0 {W : World} {L : List Blk} (r : Nat) (p : Option Addr) (c : Nat) (h : Cl W L r 1 (.slice p 0 c)) : XF Try.prog W 41 #[.pointer (some ⟨r, 0, none⟩)] L (fun v L' => v = .tuple #[.slice none 0 0, .bool false] ∧ L' = L) := by
  refine xf_enter (args := [_]) Try.func41 rfl Try.ntmps41 rfl ?_
  focus
    refine xc_seq ?_
    refine xc_region ?_
    refine xo_rd (rd_assign rfl) rfl ?_
    refine xo_rd (rd_assign rfl) rfl ?_
    refine xo_nil ?_
    refine xq_seq ?_
    refine xc_seq ?_
    refine xc_region ?_
    refine xo_rd (rd_move rfl) rfl ?_
    refine xo_ef rfl (ef_call rfl (XF.mono (xf_AFirst0 r p c h) ?_))
    rintro v L' ⟨rfl, rfl⟩
    refine xo_rd (rd_move rfl) rfl ?_
    refine xo_rd (rd_extract rfl rfl) rfl ?_
    refine xo_rd (rd_extract rfl rfl) rfl ?_
    refine xo_rd (rd_assign rfl) rfl ?_
    refine xo_rd (rd_assign rfl) rfl ?_
    refine xo_nil ?_
    refine xq_seq ?_
    refine xc_seq ?_
    refine xc_seq ?_
    refine xc_region ?_
    refine xo_rd (rd_move rfl) rfl ?_
    refine xo_nil ?_
    refine xq_seq ?_
    refine xc_condf rfl ?_
    refine xc_skip ?_
    refine xq_seq ?_
    refine xc_seq ?_
    refine xc_region ?_
    refine xo_rd (rd_move rfl) rfl ?_
    refine xo_rd (rd_move rfl) rfl ?_
    refine xo_rd (rd_assign rfl) rfl ?_
    refine xo_rd (rd_assign rfl) rfl ?_
    refine xo_nil ?_
    refine xq_seq ?_
    refine xc_ret ?_
  exact xq_ret2 (.inl rfl) Try.results41 rfl rfl ⟨rfl, rfl⟩
theorem xf_AShift {W : World} {M : List Blk} (r : Nat) (most : Int) (p : Option Addr) (c : Nat) (e : Pk) (es : List Pk) (l : List Blk) (hO : SlQ 2 129 (.slice p (es.length + 1) c) (es.length + 1) ((e :: es).flatMap Pk.enc) l) (hb : Rs W M e.p (ints .u8 e.b)) (hn : e.b.length ≤ 1000) :
    XF Try.prog W 41 #[.pointer (some ⟨r, 0, none⟩)] ((r, .cells (acl most p (es.length + 1) c).toArray 127 (0, 0)) :: (l ++ M)) (fun v L' => ∃ q k l' p' c', v = .tuple #[.slice q e.b.length k, .bool true] ∧ SlO 1 5 (.slice q e.b.length k) e.b.length (ints .u8 e.b) l' ∧ SlQ 2 129 (.slice p' es.length c') es.length (es.flatMap Pk.enc) l ∧ L' = (r, .cells (acl most p' es.length c').toArray 127 (0, 0)) :: (l' ++ (l ++ M))) := by
  have hfi := xf_AFirst (W := W) (L := (r, .cells (acl most p (es.length + 1) c).toArray 127 (0, 0)) :: (l ++ M)) r p c e es (Cl.o0 rfl) (hO.rs fun z hz => List.mem_cons_of_mem _ (List.mem_append_left _ hz)) (hb.mono fun z hz => List.mem_cons_of_mem _ (List.mem_append_right _ hz)) hn
  refine xf_enter (args := [_]) Try.func41 rfl Try.ntmps41 rfl ?_
  focus
    refine xc_seq ?_
    refine xc_region ?_
    refine xo_rd (rd_assign rfl) rfl ?_
    refine xo_rd (rd_assign rfl) rfl ?_
    refine xo_nil ?_
    refine xq_seq ?_
    refine xc_seq ?_
    refine xc_region ?_
    refine xo_rd (rd_move rfl) rfl ?_
    refine xo_ef rfl (ef_call rfl (XF.mono (hfi) ?_))
    rintro v L' ⟨q, k, l', rfl, hO', rfl⟩
    refine xo_seg [_] l' _ ?_
    refine xo_rd (rd_move rfl) rfl ?_
    refine xo_rd (rd_extract rfl rfl) rfl ?_
    refine xo_rd (rd_extract rfl rfl) rfl ?_
    refine xo_rd (rd_assign rfl) rfl ?_
    refine xo_rd (rd_assign rfl) rfl ?_
    refine xo_nil ?_
    refine xq_seq ?_
    refine xc_seq ?_
    refine xc_seq ?_
    refine xc_region ?_
    refine xo_rd (rd_move rfl) rfl ?_
    refine xo_nil ?_
    refine xq_seq ?_
    refine xc_condt rfl ?_
    refine xc_region ?_
    refine xo_rd (rd_move rfl) rfl ?_
    refine xo_rd (rd_move rfl) rfl ?_
    refine xo_rd (rd_nilCheck rfl) rfl ?_
    refine xo_rd (rd_fieldAddr rfl) rfl ?_
    refine xo_rd (rd_load1 rfl (Cl.o0 rfl)) rfl ?_
    refine xo_rd (rd_cast (v' := .slice (slp p c 1 2) es.length (c - 1)) (rd_slLo rfl rfl (by decide) (by show (1 : Int) ≤ ((es.length + 1 : Nat) : Int); omega)) rfl) rfl ?_
    refine xo_rd (rd_nilCheck rfl) rfl ?_
    refine xo_rd (rd_fieldAddr rfl) rfl ?_
    refine xo_ef rfl (ef_store1 [] _ rfl rfl (by first | rfl | assumption) rfl rfl rfl ?_)
    refine xo_nil ?_
    refine xq_seq ?_
    refine xc_seq ?_
    refine xc_region ?_
    refine xo_rd (rd_move rfl) rfl ?_
    refine xo_rd (rd_move rfl) rfl ?_
    refine xo_rd (rd_assign rfl) rfl ?_
    refine xo_rd (rd_assign rfl) rfl ?_
    refine xo_nil ?_
    refine xq_seq ?_
    refine xc_ret ?_
  refine xq_ret2 (.inl rfl) Try.results41 rfl rfl ⟨q, k, l', slp p c 1 2, c - 1, rfl, hO', ?_, rfl⟩
  have h1 := hO.cut 1 (Nat.succ_pos _)
  rw [List.flatMap_cons, Nat.one_mul, List.drop_left' (Pk.len e)] at h1
  exact h1
theorem xf_aeq {W : World} {L : List Blk} (e : Pk) (s : Int) (rs : Nat) (h : Cl W L rs 0 (.int .u16 s)) : XF Try.prog W 64 #[.agg e.enc.toArray, .pointer (some ⟨rs, 0, none⟩)] L (fun v L' => v = .bool (decide (e.s = s)) ∧ L' = L) := by
  refine xf_enter (args := [_, _]) Try.func64 rfl Try.ntmps64 rfl ?_
  focus
    refine xc_seq ?_
    refine xc_region ?_
    refine xo_ef rfl (ef_box rfl fun r2 => ?_)
    refine xo_rd (rd_assign rfl) rfl ?_
    refine xo_nil ?_
    refine xq_seq ?_
    refine xc_seq ?_
    refine xc_region ?_
    refine xo_rd (rd_fieldAddr rfl) rfl ?_
    refine xo_rd (rd_load1 rfl (Cl.o0 rfl)) rfl ?_
    refine xo_rd (rd_load1 rfl (h.mono (by intro z hz; simp [hz]))) rfl ?_
    refine xo_rd (rd_eql rfl rfl) rfl ?_
    refine xo_rd (rd_assign rfl) rfl ?_
    refine xo_nil ?_
    refine xq_seq ?_
    refine xc_ret ?_
  exact xq_tail (xq_ret1 (.inl rfl) Try.results64 rfl ⟨rfl, rfl⟩)
def hasS (es : List Pk) (s : Int) : Bool := es.any fun e => decide (e.s = s)
theorem xf_aindex {W : World} {L : List Blk} (p : Option Addr) (n c : Nat) (es : List Pk) (hn : es.length = n) (hr : Rs W L p (es.flatMap Pk.enc)) (s : Int) (rs : Nat) (h : Cl W L rs 0 (.int .u16 s)) (hm : n ≤ 1000000) :
    XF Try.prog W 71 #[.slice p n c, .func (.func 64) #[] #[.pointer (some ⟨rs, 0, none⟩)]] L (fun v L' => (∃ i : Int, v = .int .i64 i ∧ (decide (0 ≤ i)) = hasS es s) ∧ L' = L) := by
  refine xf_enter (args := [_, _]) Try.func71 rfl Try.ntmps71 rfl ?_
  focus
    refine xc_seq ?_
    refine xc_region ?_
    refine xo_rd (rd_assign rfl) rfl ?_
    refine xo_nil ?_
    refine xq_seq ?_
    refine xc_seq ?_
    refine xc_seq ?_
    refine xc_region ?_
    refine xo_rd (rd_move rfl) rfl ?_
    refine xo_rd (rd_len rfl) rfl ?_
    refine xo_rd (rd_move rfl) rfl ?_
    refine xo_nil ?_
    refine xq_seq ?_
    refine xc_block ?_
  refine xc_loopK (ι := Nat) (fun i => i ≤ n ∧ ∀ e, e ∈ es.take i → e.s ≠ s) (fun i => n - i) (fun i => [(0, .slice p n c), (1, .func (.func 64) #[] #[.pointer (some ⟨rs, 0, none⟩)]), (7, .int .i64 n), (8, .int .i64 i)]) 0 ⟨Nat.zero_le _, by simp⟩ (by repeat (first | exact keep_nil | refine keep_cons rfl ?_)) ?_
  rintro i ⟨hi, hno⟩
  by_cases hin : i < n
  · obtain ⟨b, o, hp, hc⟩ := hr.rows Pk.len (by decide) (by omega)
    subst hp
    have hci := hc i (by omega)
    have e1 : es[i]? = some es[i] := List.getElem?_eq_getElem (by omega)
    have hmem : es[i] ∈ es := List.getElem_mem _
    generalize es[i] = e at *
    have hcI : ∀ (j : Nat) (u : Value), e.enc[j]? = some u → Cl W L b (o + (i : Int).toNat * 2 + j) u := fun j u hj => hci j u hj
    focus
      refine xc_seq ?_
      refine xc_region ?_
      refine xo_rd (rd_lss rfl rfl) rfl ?_
      refine xo_nil ?_
      refine xq_seq ?_
      refine xc_seq ?_
      refine xc_dec rfl (fun hz1 => ?_) (fun hz1 => (by exfalso; omega))
      refine xc_skip ?_
      refine xq_seq ?_
      refine xc_seq ?_
      refine xc_block ?_
      refine xc_seq ?_
      refine xc_region ?_
      refine xo_rd (rd_move rfl) rfl ?_
      refine xo_rd (rd_assign rfl) rfl ?_
      refine xo_nil ?_
      refine xq_seq ?_
      refine xc_seq ?_
      refine xc_region ?_
      refine xo_rd (rd_move rfl) rfl ?_
      refine xo_rd (rd_move rfl) rfl ?_
      refine xo_rd (rd_move rfl) rfl ?_
      refine xo_rd (rd_indexAddr rfl rfl (by omega) (by omega)) rfl ?_
      refine xo_rd (rd_loadA (vs := e.enc) rfl rfl hcI) rfl ?_
      refine xo_ef rfl (ef_callv0 (r := .bool (decide (e.s = s))) (vs := [.agg e.enc.toArray]) (first := []) (cap := [.pointer (some ⟨rs, 0, none⟩)]) rfl rfl (xf_aeq e s rs h) ?_)
      refine xo_nil ?_
      refine xq_seq ?_
      refine xc_dec rfl (fun hz2 => ?_) (fun hz2 => ?_)
      refine xc_seq ?_
      refine xc_region ?_
      refine xo_rd (rd_move rfl) rfl ?_
      refine xo_rd (rd_assign rfl) rfl ?_
      refine xo_nil ?_
      refine xq_seq ?_
      refine xc_ret ?_
      refine xq_block_ret ?_
      refine xq_then_ret ?_
      refine xq_then_ret ?_
      refine xq_block_ret ?_
      refine xq_then_ret ?_
      rotate_left
      refine xc_skip ?_
      refine xq_block ?_
      refine xq_seq ?_
      refine xc_region ?_
      refine xo_rd (rd_addn rfl rfl (by omega) (by omega)) rfl ?_
      refine xo_rd (rd_move rfl) rfl ?_
      refine xo_nil ?_
      rotate_left
    · refine xq_ret1 (.inl rfl) Try.results71 rfl ⟨⟨i, rfl, ?_⟩, rfl⟩
      rw [decide_eq_true (by omega)]
      exact (List.any_eq_true.2 ⟨e, hmem, by simpa using hz2⟩).symm
    · refine xq_roundK rfl (i + 1) ⟨by omega, fun x hx => ?_⟩ (by omega) (List.Sublist.refl _) (by repeat (first | exact keep_nil | refine keep_cons rfl ?_))
      rw [List.take_add_one, e1] at hx
      rcases List.mem_append.1 hx with h1 | h1
      · exact hno x h1
      · rw [List.mem_singleton.1 h1]; exact hz2
  · skip
    focus
      refine xc_seq ?_
      refine xc_region ?_
      refine xo_rd (rd_lss rfl rfl) rfl ?_
      refine xo_nil ?_
      refine xq_seq ?_
      refine xc_seq ?_
      refine xc_dec rfl (fun h1 => (by exfalso; omega)) (fun h1 => ?_)
      refine xc_exit ?_
      refine xq_then_exit ?_
      refine xq_then_exit ?_
      refine xq_block_hit ?_
      refine xq_seq ?_
      refine xc_seq ?_
      refine xc_region ?_
      refine xo_rd (rd_assign rfl) rfl ?_
      refine xo_nil ?_
      refine xq_seq ?_
      refine xc_ret ?_
    refine xq_ret1 (.inl rfl) Try.results71 rfl ⟨⟨-1, rfl, ?_⟩, rfl⟩
    rw [List.take_of_length_le (by omega)] at hno
    rw [decide_eq_false (by decide)]
    exact (List.any_eq_false.2 fun e he => by simpa using hno e he).symm
theorem xf_acontains {W : World} {L : List Blk} (p : Option Addr) (n c : Nat) (es : List Pk) (hn : es.length = n) (hr : Rs W L p (es.flatMap Pk.enc)) (s : Int) (rs : Nat) (h : Cl W L rs 0 (.int .u16 s)) (hm : n ≤ 1000000) :
    XF Try.prog W 63 #[.slice p n c, .func (.func 64) #[] #[.pointer (some ⟨rs, 0, none⟩)]] L (fun v L' => v = .bool (hasS es s) ∧ L' = L) := by
  refine xf_enter (args := [_, _]) Try.func63 rfl Try.ntmps63 rfl ?_
  focus
    refine xc_seq ?_
    refine xc_region ?_
    refine xo_rd (rd_assign rfl) rfl ?_
    refine xo_nil ?_
    refine xq_seq ?_
    refine xc_seq ?_
    refine xc_region ?_
    refine xo_rd (rd_move rfl) rfl ?_
    refine xo_rd (rd_move rfl) rfl ?_
    refine xo_ef rfl (ef_call rfl (XF.mono (xf_aindex p n c es hn hr s rs h hm) ?_))
    rintro v L' ⟨⟨ix, rfl, hix⟩, rfl⟩
    refine xo_rd (rd_geq rfl rfl) rfl ?_
    refine xo_rd (rd_assign rfl) rfl ?_
    refine xo_nil ?_
    refine xq_seq ?_
    refine xc_ret ?_
  exact xq_ret1 (.inl rfl) Try.results63 rfl ⟨congrArg Value.bool hix, rfl⟩
end Go.Proofs.Ytpheiklhjelkcaa.X
