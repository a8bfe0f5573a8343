/-
  Texts of my own, put together: walks and laws for this seat. No condition.
-/
import Derived.Test.YtpheiklhjelkcaaZ7
import Derived.Test.YtpheiklhjelkcaaZ4
import Derived.Test.YtpheiklhjelkcaaZ2
/-
  Chapter 19: what waits, in short: walks of my own.
-/
namespace Go.Proofs.Ytpheiklhjelkcaa.X
open Go Go.RowKit
set_option linter.unusedVariables false
set_option linter.unusedSimpArgs false
/-- easelkit's SameBytes (and its like): are two rows the same? -/
theorem xf_sameI {W : World} {L : List Blk} (p q : Option Addr) (m m' c c' : Nat) (xs ys : List Int) (hx : xs.length = m) (hy : ys.length = m') (hr : Rs W L p (ints .i64 xs)) (hs : Rs W L q (ints .i64 ys)) (hm : m ≤ 1000000000) : XF Try.prog W 46 #[.slice p m c, .slice q m' c'] L (fun v L' => v = .bool (decide (xs = ys)) ∧ L' = L) := by
  refine xf_enter (args := [_, _]) Try.func46 rfl Try.ntmps46 rfl ?_
  focus
    refine xc_seq ?_
    refine xc_region ?_
    refine xo_rd (rd_assign rfl) rfl ?_
    refine xo_nil ?_
    refine xq_seq ?_
    refine xc_seq ?_
    refine xc_seq ?_
    refine xc_region ?_
    refine xo_rd (rd_move rfl) rfl ?_
    refine xo_rd (rd_len rfl) rfl ?_
    refine xo_rd (rd_move rfl) rfl ?_
    refine xo_rd (rd_len rfl) rfl ?_
    refine xo_rd (rd_neq rfl rfl) rfl ?_
    refine xo_nil ?_
    refine xq_seq ?_
    refine xc_ndec rfl (fun h1 => ?_) (fun h1 => ?_)
    refine xc_seq ?_
    refine xc_region ?_
    refine xo_rd (rd_assign rfl) rfl ?_
    refine xo_nil ?_
    refine xq_seq ?_
    refine xc_ret ?_
    refine xq_then_ret ?_
    rotate_left
    refine xc_skip ?_
    refine xq_seq ?_
    refine xc_seq ?_
    refine xc_seq ?_
    refine xc_region ?_
    refine xo_rd (rd_assign rfl) rfl ?_
    refine xo_nil ?_
    refine xq_seq ?_
    refine xc_block ?_
    rotate_left
  · refine xq_ret1 (.inl rfl) Try.results46 rfl ⟨?_, rfl⟩
    rw [decide_eq_false (fun e => by subst e; omega)]
  · have hmm : m' = m := by omega
    subst hmm
    refine xc_loopI (ι := Nat) (fun k => k ≤ m' ∧ xs.take k = ys.take k) (fun k => m' - k) (fun _ => L) (fun k => [(0, .slice p m' c), (1, .slice q m' c'), (5, .int .i64 k)]) 0 ⟨Nat.zero_le _, by simp⟩ rfl (by repeat (first | exact keep_nil | refine keep_cons rfl ?_)) ?_
    rintro k ⟨hk, he⟩
    focus
      refine xc_seq ?_
      refine xc_seq ?_
      refine xc_region ?_
      refine xo_rd (rd_move rfl) rfl ?_
      refine xo_rd (rd_move rfl) rfl ?_
      refine xo_rd (rd_len rfl) rfl ?_
      refine xo_rd (rd_lss rfl rfl) rfl ?_
      refine xo_nil ?_
      refine xq_seq ?_
      refine xc_dec rfl (fun hk1 => ?_) (fun hk1 => ?_)
      refine xc_skip ?_
      refine xq_seq ?_
      refine xc_seq ?_
      refine xc_block ?_
      refine xc_seq ?_
      refine xc_drawML [0, 0, 3, 4, 0, 0, 48, 64, 136] [0, 0, 3, 4, 0, 0, 48, 64, 136] (by kernel_rfl) (by kernel_rfl) (by kernel_rfl) ?_
      refine xm_take 0 (m' := 1) rfl (by kernel_rfl) (by first | exact Sb.refl | exact Sb.nil | (repeat (first | exact Sb.nil | exact Sb.refl | exact Sb.app0 | apply Sb.keep | apply Sb.keepApp | apply Sb.cons | apply Sb.app))) (rd_move rfl) rfl (by kernel_rfl) ?_
      refine xm_take 1 (m' := 3) rfl (by kernel_rfl) (by first | exact Sb.refl | exact Sb.nil | (repeat (first | exact Sb.nil | exact Sb.refl | exact Sb.app0 | apply Sb.keep | apply Sb.keepApp | apply Sb.cons | apply Sb.app))) (rd_move rfl) rfl (by kernel_rfl) ?_
      refine xm_take 4 (m' := 19) rfl (by kernel_rfl) (by first | exact Sb.refl | exact Sb.nil | (repeat (first | exact Sb.nil | exact Sb.refl | exact Sb.app0 | apply Sb.keep | apply Sb.keepApp | apply Sb.cons | apply Sb.app))) (rd_move rfl) rfl (by kernel_rfl) ?_
      refine xm_take 5 (m' := 51) rfl (by kernel_rfl) (by first | exact Sb.refl | exact Sb.nil | (repeat (first | exact Sb.nil | exact Sb.refl | exact Sb.app0 | apply Sb.keep | apply Sb.keepApp | apply Sb.cons | apply Sb.app))) (rd_move rfl) rfl (by kernel_rfl) ?_
      rotate_left
      refine xc_exit ?_
      refine xq_then_exit ?_
      refine xq_then_exit ?_
      refine xq_block_hit ?_
      refine xq_seq ?_
      refine xc_seq ?_
      refine xc_region ?_
      refine xo_rd (rd_assign rfl) rfl ?_
      refine xo_nil ?_
      refine xq_seq ?_
      refine xc_ret ?_
      rotate_left
    · obtain ⟨b, o, hp, hc⟩ := hr.int (i := k) (by omega)
      obtain ⟨b', o', hp', hc'⟩ := hs.int (i := k) (by omega)
      subst hp hp'
      focus
        refine xm_take 2 (m' := 55) rfl (by kernel_rfl) (by first | exact Sb.refl | exact Sb.nil | (repeat (first | exact Sb.nil | exact Sb.refl | exact Sb.app0 | apply Sb.keep | apply Sb.keepApp | apply Sb.cons | apply Sb.app))) (rd_indexAddr rfl rfl (by omega) (by omega)) rfl (by kernel_rfl) ?_
        refine xm_take 3 (m' := 63) rfl (by kernel_rfl) (by first | exact Sb.refl | exact Sb.nil | (repeat (first | exact Sb.nil | exact Sb.refl | exact Sb.app0 | apply Sb.keep | apply Sb.keepApp | apply Sb.cons | apply Sb.app))) (rd_load1 rfl hc) rfl (by kernel_rfl) ?_
        refine xm_take 6 (m' := 127) rfl (by kernel_rfl) (by first | exact Sb.refl | exact Sb.nil | (repeat (first | exact Sb.nil | exact Sb.refl | exact Sb.app0 | apply Sb.keep | apply Sb.keepApp | apply Sb.cons | apply Sb.app))) (rd_indexAddr rfl rfl (by omega) (by omega)) rfl (by kernel_rfl) ?_
        refine xm_take 7 (m' := 255) rfl (by kernel_rfl) (by first | exact Sb.refl | exact Sb.nil | (repeat (first | exact Sb.nil | exact Sb.refl | exact Sb.app0 | apply Sb.keep | apply Sb.keepApp | apply Sb.cons | apply Sb.app))) (rd_load1 rfl hc') rfl (by kernel_rfl) ?_
        refine xm_take 8 (m' := 511) rfl (by kernel_rfl) (by first | exact Sb.refl | exact Sb.nil | (repeat (first | exact Sb.nil | exact Sb.refl | exact Sb.app0 | apply Sb.keep | apply Sb.keepApp | apply Sb.cons | apply Sb.app))) (rd_neq rfl rfl) rfl (by kernel_rfl) ?_
        refine xm_done (by kernel_rfl) ?_
        refine xq_seq ?_
        refine xc_ndec rfl (fun hq1 => ?_) (fun hq1 => ?_)
        refine xc_seq ?_
        refine xc_region ?_
        refine xo_rd (rd_assign rfl) rfl ?_
        refine xo_nil ?_
        refine xq_seq ?_
        refine xc_ret ?_
        refine xq_block_ret ?_
        refine xq_then_ret ?_
        refine xq_then_ret ?_
        refine xq_block_ret ?_
        refine xq_then_ret ?_
        rotate_left
        refine xc_skip ?_
        refine xq_block ?_
        refine xq_seq ?_
        refine xc_region ?_
        refine xo_rd (rd_move rfl) rfl ?_
        refine xo_rd (rd_addn rfl rfl (by omega) (by omega)) rfl ?_
        refine xo_rd (rd_assign rfl) rfl ?_
        refine xo_nil ?_
        rotate_left
      · refine xq_ret1 (.inl rfl) Try.results46 rfl ⟨?_, rfl⟩
        rw [decide_eq_false (fun e => by subst e; exact hq1 rfl)]
      · refine xq_roundI (k + 1) ⟨by omega, ?_⟩ (by omega) rfl (by repeat (first | exact keep_nil | refine keep_cons rfl ?_))
        rw [List.take_add_one, List.take_add_one, he, List.getElem?_eq_getElem (by omega), List.getElem?_eq_getElem (by omega), hq1]
    · have hkm : k = m' := by omega
      subst hkm
      refine xq_ret1 (.inl rfl) Try.results46 rfl ⟨?_, rfl⟩
      rw [List.take_of_length_le (by omega), List.take_of_length_le (by omega)] at he
      rw [decide_eq_true he]
theorem xf_sameIT {W : World} {L : List Blk} (p q : Option Addr) (m m' c c' : Nat) (xs ys : List Int) (he : xs = ys) (hx : xs.length = m) (hy : ys.length = m') (hr : Rs W L p (ints .i64 xs)) (hs : Rs W L q (ints .i64 ys)) (hm : m ≤ 1000000000) : XF Try.prog W 46 #[.slice p m c, .slice q m' c'] L (fun v L' => v = .bool true ∧ L' = L) :=
  (xf_sameI p q m m' c c' xs ys hx hy hr hs hm).mono fun v L' h => ⟨h.1.trans (by rw [decide_eq_true he]), h.2⟩
def waitsA (l : List Ea) : List Int := l.map fun e => if e.lo = true then -1 else e.f.i.pic
theorem waitsA_take (l : List Ea) (k : Nat) (h : k < l.length) : waitsA (l.take (k + 1)) = waitsA (l.take k) ++ [if (l[k]).lo = true then -1 else (l[k]).f.i.pic] := by
  unfold waitsA; rw [List.take_add_one, List.getElem?_eq_getElem h, List.map_append]; rfl
/-- The state of waits. -/
structure WaS where
  i : Nat
  q : Option Addr
  k : Nat
  l : List Blk
set_option maxHeartbeats 800000 in
theorem xf_waits {W : World} {L : List Blk} (x : Qs) (hx : QR W L x) (hat : ∀ e, e ∈ x.es → e.i.f.At W L) (hf : ∀ e, e ∈ x.es → e.i.f.Few) (hn : x.es.length ≤ 1000000) (hpic : ∀ e, e ∈ x.es → 0 ≤ e.i.f.i.pic ∧ e.i.f.i.pic ≤ 65535) :
    XF Try.prog W 47 #[.pointer (some ⟨x.r, 0, none⟩)] L (fun v L' => ∃ (q : Option Addr) (k : Nat) (N : List Blk), v = .slice q x.es.length k ∧ Rs W (N ++ L) q (ints .i64 (waitsA x.a)) ∧ L' = N ++ L) := by
  refine xf_enter (args := [_]) Try.func47 rfl Try.ntmps47 rfl ?_
  focus
    refine xc_seq ?_
    refine xc_region ?_
    refine xo_rd (rd_assign rfl) rfl ?_
    refine xo_nil ?_
    refine xq_seq ?_
    refine xc_seq ?_
    refine xc_region ?_
    refine xo_rd (rd_assign rfl) rfl ?_
    refine xo_nil ?_
    refine xq_seq ?_
    refine xc_seq ?_
    refine xc_region ?_
    refine xo_rd (rd_move rfl) rfl ?_
    refine xo_ef rfl (ef_call rfl (XF.mono (xf_All x hx hat hf hn) ?_))
    rintro v L' ⟨ys, qa, ka, la, rfl, hya, hyo, hsa, rfl⟩
    refine xo_rd (rd_assign rfl) rfl ?_
    refine xo_nil ?_
    refine xq_seq ?_
    refine xc_seq ?_
    refine xc_seq ?_
    refine xc_region ?_
    refine xo_rd (rd_assign rfl) rfl ?_
    refine xo_nil ?_
    refine xq_seq ?_
    refine xc_block ?_
  have hyl : ys.length = x.es.length := by have := congrArg List.length hya; rw [List.length_map, x.len_a] at this; exact this
  have hwl : (waitsA x.a).length = x.es.length := by unfold waitsA; rw [List.length_map, x.len_a]
  have hpy : ∀ e, e ∈ ys → 0 ≤ e.i.f.i.pic ∧ e.i.f.i.pic ≤ 65535 := fun e he => by
    have : e.a ∈ x.a := hya ▸ List.mem_map.2 ⟨e, he, rfl⟩
    obtain ⟨u, hu, hue⟩ := List.mem_map.1 this
    have h1 := hpic u hu
    rwa [show u.i.f.i = e.i.f.i from congrArg (fun z : Ea => z.f.i) hue] at h1
  rw [← hya]
  refine xc_loopI (ι := WaS) (fun s => s.i ≤ ys.length ∧ SlQ 1 3 (.slice s.q s.i s.k) s.i (ints .i64 (waitsA ((ys.map En.a).take s.i))) s.l) (fun s => ys.length - s.i) (fun s => s.l ++ (la ++ (ebl ys ++ L))) (fun s => [(3, .slice s.q s.i s.k), (4, .slice qa ys.length ka), (5, .int .i64 s.i)]) ⟨0, none, 0, []⟩ ⟨Nat.zero_le _, SlQ.nil⟩ rfl (by repeat (first | exact keep_nil | refine keep_cons rfl ?_)) ?_
  rintro ⟨i, q, k, l⟩ ⟨hi, hsl⟩
  dsimp only at hi hsl ⊢
  by_cases hin : i < ys.length
  · have hR : Rs W (l ++ (la ++ (ebl ys ++ L))) qa (ys.flatMap En.enc) := hsa.rs (by intro z hz; simp [hz])
    obtain ⟨b, o, hq, hc⟩ := el_of hR hin
    subst hq
    have c2 := hc i hin 2 _ rfl
    have c9 := hc i hin 9 _ rfl
    have ht := waitsA_take (ys.map En.a) i (by rw [List.length_map]; exact hin)
    rw [List.getElem_map] at ht
    have hpi := hpy ys[i] (List.getElem_mem _)
    generalize ys[i] = e at *
    focus
      refine xc_seq ?_
      refine xc_seq ?_
      refine xc_region ?_
      refine xo_rd (rd_move rfl) rfl ?_
      refine xo_rd (rd_move rfl) rfl ?_
      refine xo_rd (rd_len rfl) rfl ?_
      refine xo_rd (rd_lss rfl rfl) rfl ?_
      refine xo_nil ?_
      refine xq_seq ?_
      refine xc_dec rfl (fun hz1 => ?_) (fun hz1 => (by exfalso; omega))
      refine xc_skip ?_
      refine xq_seq ?_
      refine xc_seq ?_
      refine xc_block ?_
      refine xc_seq ?_
      refine xc_region ?_
      refine xo_rd (rd_move rfl) rfl ?_
      refine xo_rd (rd_move rfl) rfl ?_
      refine xo_rd (rd_indexAddr rfl rfl (by omega) (by omega)) rfl ?_
      refine xo_rd (rd_fieldAddr rfl) rfl ?_
      refine xo_rd (rd_fieldAddr rfl) rfl ?_
      refine xo_rd (rd_load1 rfl c2) rfl ?_
      refine xo_nil ?_
      refine xq_seq ?_
      refine xc_cond rfl (fun hz2 => ?_) (fun hz2 => ?_)
      refine xc_region ?_
      refine xo_rd (rd_move rfl) rfl ?_
      refine xo_ef rfl (ef_slice1 rfl rfl rfl fun r21 => ?_)
      rotate_left
      refine xc_region ?_
      refine xo_rd (rd_move rfl) rfl ?_
      refine xo_rd (rd_move rfl) rfl ?_
      refine xo_rd (rd_move rfl) rfl ?_
      refine xo_rd (rd_indexAddr rfl rfl (by omega) (by omega)) rfl ?_
      refine xo_rd (rd_fieldAddr rfl) rfl ?_
      refine xo_rd (rd_fieldAddr rfl) rfl ?_
      refine xo_rd (rd_fieldAddr rfl) rfl ?_
      refine xo_rd (rd_fieldAddr rfl) rfl ?_
      refine xo_rd (rd_load1 rfl c9) rfl ?_
      refine xo_rd (rd_convn rfl (by omega) (by omega)) rfl ?_
      refine xo_ef rfl (ef_slice1 rfl rfl rfl fun r33 => ?_)
      rotate_left
    · refine xo_ef rfl (ef_appendQS [_] (la ++ (ebl ys ++ L)) l (news := [.int .i64 (-1)]) rfl rfl hsl rfl (Rs.fresh (vs := [.int .i64 (-1)]) (List.Mem.head _)) rfl rfl (by decide) (by omega) (by omega) fun q2 k2 l2 hO2 hk2 => ?_)
      focus
        refine xo_rd (rd_assign rfl) rfl ?_
        refine xo_nil ?_
        refine xq_block ?_
        refine xq_seq ?_
        refine xc_region ?_
        refine xo_rd (rd_move rfl) rfl ?_
        refine xo_rd (rd_addn rfl rfl (by omega) (by omega)) rfl ?_
        refine xo_rd (rd_assign rfl) rfl ?_
        refine xo_nil ?_
      refine xq_tail (xq_roundI (⟨i + 1, q2, k2, l2⟩ : WaS) ⟨by dsimp only; omega, ?_⟩ (by dsimp only; omega) rfl (by repeat (first | exact keep_nil | refine keep_cons rfl ?_)))
      dsimp only
      have hlo : e.a.lo = true := by exact hz2
      rw [ht, hlo, ints_app]
      exact hO2
    · refine xo_ef rfl (ef_appendQS [_] (la ++ (ebl ys ++ L)) l (news := [.int .i64 e.i.f.i.pic]) rfl rfl hsl rfl (Rs.fresh (vs := [.int .i64 e.i.f.i.pic]) (List.Mem.head _)) rfl rfl (by decide) (by omega) (by omega) fun q2 k2 l2 hO2 hk2 => ?_)
      focus
        refine xo_rd (rd_assign rfl) rfl ?_
        refine xo_nil ?_
        refine xq_block ?_
        refine xq_seq ?_
        refine xc_region ?_
        refine xo_rd (rd_move rfl) rfl ?_
        refine xo_rd (rd_addn rfl rfl (by omega) (by omega)) rfl ?_
        refine xo_rd (rd_assign rfl) rfl ?_
        refine xo_nil ?_
      refine xq_tail (xq_roundI (⟨i + 1, q2, k2, l2⟩ : WaS) ⟨by dsimp only; omega, ?_⟩ (by dsimp only; omega) rfl (by repeat (first | exact keep_nil | refine keep_cons rfl ?_)))
      dsimp only
      have hlo : e.a.lo = false := by exact hz2
      rw [ht, hlo, ints_app]
      exact hO2
  · skip
    focus
      refine xc_seq ?_
      refine xc_seq ?_
      refine xc_region ?_
      refine xo_rd (rd_move rfl) rfl ?_
      refine xo_rd (rd_move rfl) rfl ?_
      refine xo_rd (rd_len rfl) rfl ?_
      refine xo_rd (rd_lss rfl rfl) rfl ?_
      refine xo_nil ?_
      refine xq_seq ?_
      refine xc_dec rfl (fun h1 => (by exfalso; omega)) (fun h1 => ?_)
      refine xc_exit ?_
      refine xq_then_exit ?_
      refine xq_then_exit ?_
      refine xq_block_hit ?_
      refine xq_seq ?_
      refine xc_seq ?_
      refine xc_region ?_
      refine xo_rd (rd_move rfl) rfl ?_
      refine xo_rd (rd_assign rfl) rfl ?_
      refine xo_nil ?_
      refine xq_seq ?_
      refine xc_ret ?_
    have hiN : i = ys.length := by omega
    subst hiN
    rw [List.take_of_length_le (by rw [List.length_map]; omega)] at hsl
    rw [hyl] at hsl ⊢
    refine xq_ret1 (.inl rfl) Try.results47 rfl ⟨q, k, l ++ (la ++ ebl ys), rfl, ?_, ?_⟩
    · rw [List.append_assoc, List.append_assoc]; exact hsl.rsl
    · rw [List.append_assoc, List.append_assoc]
end Go.Proofs.Ytpheiklhjelkcaa.X
/-
  Chapter 19: the chapter's short examples: a walk of my own.
-/
namespace Go.Proofs.Ytpheiklhjelkcaa.X
open Go Go.RowKit
set_option linter.unusedVariables false
set_option linter.unusedSimpArgs false
theorem xf_PutE {W : World} {M : List Blk} (r : Nat) (most : Int) (ca bg : Bool) (es : List En) (p : Option Addr) (c : Nat) (l : List Blk) (hx : (Qs.mk r most ca bg es p c l).Ok W M) (pv : Option Addr) (nv cv : Nat) (xs : List En) (hv : Rs W M pv (xs.flatMap En.enc)) (hvl : xs.length = nv) (hat : ∀ e, e ∈ xs → e.i.f.At W M) (hf : ∀ e, e ∈ xs → e.i.f.Few) (hlen : es.length + nv + 1 ≤ 1000000)
    (la xa lr : List Ea) (cnt : Nat) (hla : es.map En.a = la) (hxa : xs.map En.a = xa) (hres : putsA most ca bg la xa = (lr, cnt)) :
    XF Try.prog W 22 #[.pointer (some ⟨r, 0, none⟩), .slice pv nv cv] ((r, .cells (qcl most ca bg p es.length c).toArray 108 (0, 0)) :: (l ++ M)) (fun v L' => ∃ es' p c l N, v = .int .i64 cnt ∧ L' = (r, .cells (qcl most ca bg p es'.length c).toArray 108 (0, 0)) :: (l ++ (N ++ M)) ∧ (Qs.mk r most ca bg es' p c l).Ok W (N ++ M) ∧ es'.map En.a = lr) := by
  subst hla hxa
  have h := xf_Put (W := W) (M := M) (M0 := M) r most ca bg es p c l hx pv nv cv xs hv hvl hat hf hlen
  rw [hres] at h
  exact h
theorem xf_NewE {W : World} {L : List Blk} (b : Int) (ca : Bool) (hb : 1 ≤ b ∧ b ≤ 256) : XF Try.prog W 10 #[.int .i64 b, .bool ca] L (fun v L' => ∃ r, v = .tuple #[.pointer (some ⟨r, 0, none⟩), .int .i64 0] ∧ L' = (r, .cells (qcl b ca false none 0 0).toArray 108 (0, 0)) :: L) :=
  (xf_New b ca hb).mono fun v L' ⟨r, hv, hL⟩ => ⟨r, hv, hL⟩
theorem perm_w1 (a b : Blk) (R : List Blk) : (a :: b :: R).Perm (b :: ([] ++ (a :: R))) := (by classical exact List.perm_iff_count.2 fun a => by simp only [List.append_eq, List.count_append, List.count_cons, List.count_nil, List.cons_append, List.nil_append, List.flatMap_append, List.flatMap_cons, List.flatMap_nil, List.append_nil]; omega)
theorem perm_w2 (a b : Blk) (x y l R : List Blk) : (a :: b :: (x ++ (y ++ (l ++ R)))).Perm (b :: (l ++ (a :: (x ++ (y ++ R))))) := (by classical exact List.perm_iff_count.2 fun a => by simp only [List.append_eq, List.count_append, List.count_cons, List.count_nil, List.cons_append, List.nil_append, List.flatMap_append, List.flatMap_cons, List.flatMap_nil, List.append_nil]; omega)
def wKey (i : Nat) : Bool := decide ((i : Int) = 2)
def wBg (i : Nat) : Bool := decide ((i : Int) = 3)
def wKey2 (i : Nat) : Bool := decide ((i : Int) = 1) || decide ((i : Int) = 3)
def wWant (i : Nat) : List Int := if i < 2 then [-1, 2, 3] else [1, 2, -1]
def wRes (i : Nat) : List Ea := (putsA 2 true (wBg i) [madeE (wKey i) 1 1] [madeE (wKey2 i) 2 1, madeE false 3 1]).1
theorem w_1 : ∀ i : Nat, i < 4 → putsA 2 true false [] [madeE (wKey i) 1 1] = ([madeE (wKey i) 1 1], 0) := by decide
theorem w_2 : ∀ i : Nat, i < 4 → putsA 2 true (wBg i) [madeE (wKey i) 1 1] [madeE (wKey2 i) 2 1, madeE false 3 1] = (wRes i, 1) := by decide
theorem w_3 : ∀ i : Nat, i < 4 → waitsA (wRes i) = wWant i := by decide
theorem w_4 : ∀ i : Nat, i < 4 → ∀ e, e ∈ wRes i → 0 ≤ e.f.i.pic ∧ e.f.i.pic ≤ 65535 := by decide
theorem w_5 : ∀ i : Nat, i < 4 → freshA [madeE (wKey i) 1 1] false 0 = true := by decide
theorem rs_1 {W : World} {L : List Blk} {r T : Nat} {y : En} (h : (r, Obj.cells y.enc.toArray T (0, 0)) ∈ L) : Rs W L (some ⟨r, 0, none⟩) ([y].flatMap En.enc) := by
  rw [List.flatMap_singleton]; exact Rs.fresh (vs := y.enc) h
theorem rs_2 {W : World} {L : List Blk} {r T : Nat} {y z : En} (h : (r, Obj.cells (y.enc ++ z.enc).toArray T (0, 0)) ∈ L) : Rs W L (some ⟨r, 0, none⟩) ([y, z].flatMap En.enc) := by
  rw [List.flatMap_cons, List.flatMap_singleton]; exact Rs.fresh (vs := y.enc ++ z.enc) h
theorem at_2 {W : World} {L : List Blk} {q : Blk} {y z : En} (hy : y.i.f.Ok 116) (hz : z.i.f.Ok 116) : ∀ e, e ∈ [y, z] → e.i.f.At W (q :: (z.i.f.bl ++ (y.i.f.bl ++ L))) := fun e he => by
  rcases List.mem_cons.1 he with h | h
  · rw [h]; exact hy.at.app.skip
  · rw [List.mem_singleton.1 h]; exact hz.at.skip
theorem few_2 {y z : En} {k k2 : Bool} {n n2 g g2 : Int} (hy : y.a = madeE k n g) (hz : z.a = madeE k2 n2 g2) : ∀ e, e ∈ [y, z] → e.i.f.Few := fun e he => by
  rcases List.mem_cons.1 he with h | h
  · rw [h]; exact madeF_few _ _ _ (congrArg Ea.f hy)
  · rw [List.mem_singleton.1 h]; exact madeF_few _ _ _ (congrArg Ea.f hz)
set_option maxHeartbeats 1600000 in
theorem xf_works {W : World} {L : List Blk} : XF Try.prog W 9 #[] L (fun v L' => v = .bool true ∧ L' = L) := by
  refine xf_enter (args := []) Try.func9 rfl Try.ntmps9 rfl ?_
  focus
    refine xc_seq ?_
    refine xc_region ?_
    refine xo_rd (rd_assign rfl) rfl ?_
    refine xo_nil ?_
    refine xq_seq ?_
    refine xc_seq ?_
    refine xc_seq ?_
    refine xc_region ?_
    refine xo_rd (rd_assign rfl) rfl ?_
    refine xo_nil ?_
    refine xq_seq ?_
    refine xc_block ?_
  refine xc_loopK (ι := Nat) (fun i => i ≤ 4) (fun i => 4 - i) (fun i => [(1, .int .i64 i)]) 0 (by decide) (by repeat (first | exact keep_nil | refine keep_cons rfl ?_)) ?_
  intro i hi
  by_cases hin : i < 4
  · have hc : i = 0 ∨ i = 1 ∨ i = 2 ∨ i = 3 := by omega
    rcases hc with rfl | rfl | rfl | rfl
    · skip
      focus
        refine xc_seq ?_
        refine xc_seq ?_
        refine xc_region ?_
        refine xo_rd (rd_move rfl) rfl ?_
        refine xo_rd (rd_lss rfl rfl) rfl ?_
        refine xo_nil ?_
        refine xq_seq ?_
        refine xc_condt rfl ?_
        refine xc_skip ?_
        refine xq_seq ?_
        refine xc_seq ?_
        refine xc_block ?_
        refine xc_seq ?_
        refine xc_region ?_
        refine xo_ef rfl (ef_call rfl (XF.mono (xf_NewE 2 true ⟨by decide, by decide⟩) ?_))
        rintro v L' ⟨r, rfl, rfl⟩
        refine xo_rd (rd_move rfl) rfl ?_
        refine xo_rd (rd_extract rfl rfl) rfl ?_
        refine xo_rd (rd_extract rfl rfl) rfl ?_
        refine xo_rd (rd_assign rfl) rfl ?_
        refine xo_rd (rd_assign rfl) rfl ?_
        refine xo_nil ?_
        refine xq_seq ?_
        refine xc_seq ?_
        refine xc_seq ?_
        refine xc_region ?_
        refine xo_rd (rd_move rfl) rfl ?_
        refine xo_rd (rd_neq rfl rfl) rfl ?_
        refine xo_nil ?_
        refine xq_seq ?_
        refine xc_condf rfl ?_
        refine xc_skip ?_
        refine xq_seq ?_
        refine xc_seq ?_
        refine xc_region ?_
        refine xo_rd (rd_move rfl) rfl ?_
        refine xo_rd (rd_move rfl) rfl ?_
        refine xo_rd (rd_eql rfl rfl) rfl ?_
        refine xo_ef rfl (ef_call rfl (XF.mono (xf_made (wKey 0) 1 1 ⟨by decide, by decide⟩) ?_))
        rintro v L' ⟨y, rfl, hya, hyo, rfl⟩
        refine xo_seg [_] y.i.f.bl _ ?_
        refine xo_ef rfl (ef_sliceA (vs := y.enc) rfl rfl (by rw [En.len]; decide) (by rw [En.len]; decide) fun r20 => ?_)
        refine xo_ef rfl (ef_call rfl (XF.mono ((xf_PutE (M := (r20, .cells y.enc.toArray 45 (0, 0)) :: (y.i.f.bl ++ L)) r 2 true false [] none 0 [] ⟨SlQ.nil, (fun e h => by cases h), (fun e h => by cases h), Nat.zero_le _⟩ (some ⟨r20, 0, none⟩) 1 1 [y] (rs_1 (List.Mem.head _)) rfl (fun e he => by rw [List.mem_singleton.1 he]; exact hyo.at.skip) (fun e he => by rw [List.mem_singleton.1 he]; exact madeF_few _ _ _ (congrArg Ea.f hya)) (by decide) [] [madeE (wKey 0) 1 1] _ _ rfl (by show [y.a] = _; rw [hya]) (w_1 0 (by decide))).perm (perm_w1 _ _ _)) ?_))
        rintro v L' ⟨es1, p1, c1, l1, N1, rfl, rfl, hok1, hm1⟩
        refine xo_rd (rd_assign rfl) rfl ?_
        refine xo_nil ?_
        refine xq_seq ?_
      have hl1 : es1.length = 1 := by
        have h := congrArg List.length hm1
        rw [List.length_map] at h
        exact h
      focus
        refine xc_seq ?_
        refine xc_seq ?_
        refine xc_region ?_
        refine xo_rd (rd_move rfl) rfl ?_
        refine xo_rd (rd_eql rfl rfl) rfl ?_
        refine xo_rd (rd_move rfl) rfl ?_
        refine xo_gskip rfl rfl rfl rfl ?_
        refine xo_gskip rfl rfl rfl rfl ?_
        refine xo_gskip rfl rfl rfl rfl ?_
        refine xo_rd (rd_pickf rfl rfl) rfl ?_
        refine xo_nil ?_
        refine xq_seq ?_
        refine xc_condf rfl ?_
        refine xc_skip ?_
        refine xq_seq ?_
      focus
        refine xc_seq ?_
        refine xc_region ?_
        refine xo_rd (rd_move rfl) rfl ?_
        refine xo_rd (rd_move rfl) rfl ?_
        refine xo_rd (rd_move rfl) rfl ?_
        refine xo_rd (rd_eql rfl rfl) rfl ?_
        refine xo_rd (rd_move rfl) rfl ?_
        refine xo_grd rfl rfl (rd_move rfl) rfl ?_
        refine xo_grd rfl rfl (rd_eql rfl rfl) rfl ?_
        refine xo_rd (rd_pickf rfl rfl) rfl ?_
        refine xo_ef rfl (ef_call rfl (XF.mono (xf_made (wKey2 0) 2 1 ⟨by decide, by decide⟩) ?_))
        rintro v L' ⟨y2, rfl, hya2, hyo2, rfl⟩
        refine xo_seg [_] y2.i.f.bl _ ?_
        refine xo_ef rfl (ef_call rfl (XF.mono (xf_made false 3 1 ⟨by decide, by decide⟩) ?_))
        rintro v L' ⟨y3, rfl, hya3, hyo3, rfl⟩
        refine xo_seg [_] y3.i.f.bl _ ?_
        refine xo_ef rfl (ef_buildL (T := 73) (len := 2) (s := 17) (cells := (y2.enc ++ y3.enc).toArray) rfl (by decide) (by decide) (by kernel_rfl) fun r39 => ?_)
        refine xo_ef rfl (ef_call rfl (XF.mono ((xf_PutE (M := (r39, .cells (y2.enc ++ y3.enc).toArray 45 (0, 0)) :: (y3.i.f.bl ++ (y2.i.f.bl ++ (N1 ++ ((r20, .cells y.enc.toArray 45 (0, 0)) :: (y.i.f.bl ++ L)))))) r 2 true false es1 p1 c1 l1 (hok1.mono (by intro z hz; simp [hz])) (some ⟨r39, 0, none⟩) 2 2 [y2, y3] (rs_2 (List.Mem.head _)) rfl (at_2 hyo2 hyo3) (few_2 hya2 hya3) (by omega) [madeE (wKey 0) 1 1] [madeE (wKey2 0) 2 1, madeE false 3 1] _ _ hm1 (by show [y2.a, y3.a] = _; rw [hya2, hya3]) (w_2 0 (by decide))).perm (perm_w2 _ _ y3.i.f.bl y2.i.f.bl l1 (N1 ++ ((r20, .cells y.enc.toArray 45 (0, 0)) :: (y.i.f.bl ++ L))))) ?_))
        rintro v L' ⟨es2, p2, c2, l2, N2, rfl, rfl, hok2, hm2⟩
        refine xo_rd (rd_addn rfl rfl (by omega) (by omega)) rfl ?_
        refine xo_rd (rd_assign rfl) rfl ?_
        refine xo_nil ?_
        refine xq_seq ?_
      have hsb : L.Sublist (N2 ++ ((r39, .cells (y2.enc ++ y3.enc).toArray 45 (0, 0)) :: (y3.i.f.bl ++ (y2.i.f.bl ++ (N1 ++ ((r20, .cells y.enc.toArray 45 (0, 0)) :: (y.i.f.bl ++ L))))))) :=
        ((((((List.sublist_append_right y.i.f.bl L).cons _).trans (List.sublist_append_right N1 _)).trans (List.sublist_append_right y2.i.f.bl _)).trans (List.sublist_append_right y3.i.f.bl _)).cons _).trans (List.sublist_append_right N2 _)
      generalize (N2 ++ ((r39, Obj.cells (y2.enc ++ y3.enc).toArray 45 (0, 0)) :: (y3.i.f.bl ++ (y2.i.f.bl ++ (N1 ++ ((r20, Obj.cells y.enc.toArray 45 (0, 0)) :: (y.i.f.bl ++ L)))))) : List Blk) = R at *
      have hel : es2.length = 3 := by
        have h := congrArg List.length hm2
        rw [List.length_map] at h
        exact h
      have hqr2 : ∀ L', (∀ z, z ∈ ((r, Obj.cells (qcl 2 true false p2 es2.length c2).toArray 108 (0, 0)) :: (l2 ++ R) : List Blk) → z ∈ L') → QR W L' (Qs.mk r 2 true false es2 p2 c2 l2) := fun L' h => hok2.qr fun z hz => h z (List.mem_append_left _ hz)
      have hwt := fun L' (h : ∀ z, z ∈ ((r, Obj.cells (qcl 2 true false p2 es2.length c2).toArray 108 (0, 0)) :: (l2 ++ R) : List Blk) → z ∈ L') => xf_waits (Qs.mk r 2 true false es2 p2 c2 l2) (hqr2 L' h) (fun e he => (hok2.at' e he).mono fun z hz => h z (List.mem_cons_of_mem _ (List.mem_append_right _ hz))) hok2.few (by dsimp only; omega) (fun e he => w_4 0 (by decide) e.a (hm2 ▸ List.mem_map.2 ⟨e, he, rfl⟩))
      have hwe : waitsA (Qs.mk r 2 true false es2 p2 c2 l2).a = [-1, 2, 3] := by
        show waitsA (es2.map En.a) = _
        rw [hm2]; exact w_3 0 (by decide)
      rw [hwe] at hwt
      refine xc_seq (xc_region ?_)
      refine xo_ef rfl (ef_buildL (T := 101) (len := 3) (s := 1) (cells := #[.int .i64 (-1), .int .i64 2, .int .i64 3]) rfl (by decide) (by decide) (by kernel_rfl) fun r42 => ?_)
      refine xo_ef rfl (ef_buildL (T := 101) (len := 3) (s := 1) (cells := #[.int .i64 (-1), .int .i64 2, .int .i64 3]) rfl (by decide) (by decide) (by kernel_rfl) fun r43 => ?_)
      refine xo_ef rfl (ef_buildL (T := 101) (len := 3) (s := 1) (cells := #[.int .i64 1, .int .i64 2, .int .i64 (-1)]) rfl (by decide) (by decide) (by kernel_rfl) fun r44 => ?_)
      refine xo_ef rfl (ef_buildL (T := 101) (len := 3) (s := 1) (cells := #[.int .i64 1, .int .i64 2, .int .i64 (-1)]) rfl (by decide) (by decide) (by kernel_rfl) fun r45 => ?_)
      refine xo_ef rfl (ef_buildL (T := 102) (len := 4) (s := 1) (cells := #[.slice (some ⟨r42, 0, none⟩) 3 3, .slice (some ⟨r43, 0, none⟩) 3 3, .slice (some ⟨r44, 0, none⟩) 3 3, .slice (some ⟨r45, 0, none⟩) 3 3]) rfl (by decide) (by decide) (by kernel_rfl) fun r46 => ?_)
      focus
        refine xo_rd (rd_move rfl) rfl ?_
        refine xo_rd (rd_indexAddr rfl rfl (by omega) (by omega)) rfl ?_
        refine xo_rd (rd_load1 rfl (Cl.o0 rfl)) rfl ?_
        refine xo_rd (rd_assign rfl) rfl ?_
        refine xo_nil ?_
        refine xq_seq ?_
        refine xc_seq ?_
        refine xc_region ?_
        refine xo_rd (rd_move rfl) rfl ?_
        refine xo_rd (rd_neq rfl rfl) rfl ?_
        refine xo_rd (rd_move rfl) rfl ?_
        refine xo_grd rfl rfl (rd_move rfl) rfl ?_
        refine xo_gef rfl rfl rfl (ef_call rfl (XF.mono (hwt _ (fun z hz => List.mem_append_right [_, _, _, _, _] hz)) ?_))
        rintro v L' ⟨qw, kw, NW, rfl, hRw, rfl⟩
        refine xo_grd rfl rfl (rd_move rfl) rfl ?_
        refine xo_gef rfl rfl rfl (ef_call rfl (XF.mono (xf_sameIT qw (some ⟨r42, 0, none⟩) es2.length 3 kw 3 [-1, 2, 3] [-1, 2, 3] rfl (by rw [hel]; rfl) rfl hRw (Rs.fresh (vs := ints .i64 [-1, 2, 3]) (T := 3) (fr := (0, 0)) (List.mem_append_right _ (by first | exact List.Mem.head _ | exact List.Mem.tail _ (List.Mem.head _) | exact List.Mem.tail _ (List.Mem.tail _ (List.Mem.head _)) | exact List.Mem.tail _ (List.Mem.tail _ (List.Mem.tail _ (List.Mem.head _))) | exact List.Mem.tail _ (List.Mem.tail _ (List.Mem.tail _ (List.Mem.tail _ (List.Mem.head _)))) | exact List.Mem.tail _ (List.Mem.tail _ (List.Mem.tail _ (List.Mem.tail _ (List.Mem.tail _ (List.Mem.head _))))) | exact List.Mem.tail _ (List.Mem.tail _ (List.Mem.tail _ (List.Mem.tail _ (List.Mem.tail _ (List.Mem.tail _ (List.Mem.head _)))))) | exact List.Mem.tail _ (List.Mem.tail _ (List.Mem.tail _ (List.Mem.tail _ (List.Mem.tail _ (List.Mem.tail _ (List.Mem.tail _ (List.Mem.head _)))))))))) (by omega)) ?_))
        rintro v L' ⟨rfl, rfl⟩
        refine xo_grd rfl rfl (rd_not rfl) rfl ?_
        refine xo_rd (rd_pickf rfl rfl) rfl ?_
        refine xo_nil ?_
        refine xq_seq ?_
        refine xc_condf rfl ?_
        refine xc_skip ?_
        refine xq_block ?_
        refine xq_seq ?_
        refine xc_region ?_
        refine xo_rd (rd_move rfl) rfl ?_
        refine xo_rd (rd_addn rfl rfl (by omega) (by omega)) rfl ?_
        refine xo_rd (rd_assign rfl) rfl ?_
        refine xo_nil ?_
      exact xq_roundK rfl 1 (by decide) (by decide) ((hsb.trans ((List.sublist_append_right l2 R).cons _)).trans ((List.sublist_append_right [_, _, _, _, _] _).trans (List.sublist_append_right NW _))) (by repeat (first | exact keep_nil | refine keep_cons rfl ?_))
    · skip
      focus
        refine xc_seq ?_
        refine xc_seq ?_
        refine xc_region ?_
        refine xo_rd (rd_move rfl) rfl ?_
        refine xo_rd (rd_lss rfl rfl) rfl ?_
        refine xo_nil ?_
        refine xq_seq ?_
        refine xc_condt rfl ?_
        refine xc_skip ?_
        refine xq_seq ?_
        refine xc_seq ?_
        refine xc_block ?_
        refine xc_seq ?_
        refine xc_region ?_
        refine xo_ef rfl (ef_call rfl (XF.mono (xf_NewE 2 true ⟨by decide, by decide⟩) ?_))
        rintro v L' ⟨r, rfl, rfl⟩
        refine xo_rd (rd_move rfl) rfl ?_
        refine xo_rd (rd_extract rfl rfl) rfl ?_
        refine xo_rd (rd_extract rfl rfl) rfl ?_
        refine xo_rd (rd_assign rfl) rfl ?_
        refine xo_rd (rd_assign rfl) rfl ?_
        refine xo_nil ?_
        refine xq_seq ?_
        refine xc_seq ?_
        refine xc_seq ?_
        refine xc_region ?_
        refine xo_rd (rd_move rfl) rfl ?_
        refine xo_rd (rd_neq rfl rfl) rfl ?_
        refine xo_nil ?_
        refine xq_seq ?_
        refine xc_condf rfl ?_
        refine xc_skip ?_
        refine xq_seq ?_
        refine xc_seq ?_
        refine xc_region ?_
        refine xo_rd (rd_move rfl) rfl ?_
        refine xo_rd (rd_move rfl) rfl ?_
        refine xo_rd (rd_eql rfl rfl) rfl ?_
        refine xo_ef rfl (ef_call rfl (XF.mono (xf_made (wKey 1) 1 1 ⟨by decide, by decide⟩) ?_))
        rintro v L' ⟨y, rfl, hya, hyo, rfl⟩
        refine xo_seg [_] y.i.f.bl _ ?_
        refine xo_ef rfl (ef_sliceA (vs := y.enc) rfl rfl (by rw [En.len]; decide) (by rw [En.len]; decide) fun r20 => ?_)
        refine xo_ef rfl (ef_call rfl (XF.mono ((xf_PutE (M := (r20, .cells y.enc.toArray 45 (0, 0)) :: (y.i.f.bl ++ L)) r 2 true false [] none 0 [] ⟨SlQ.nil, (fun e h => by cases h), (fun e h => by cases h), Nat.zero_le _⟩ (some ⟨r20, 0, none⟩) 1 1 [y] (rs_1 (List.Mem.head _)) rfl (fun e he => by rw [List.mem_singleton.1 he]; exact hyo.at.skip) (fun e he => by rw [List.mem_singleton.1 he]; exact madeF_few _ _ _ (congrArg Ea.f hya)) (by decide) [] [madeE (wKey 1) 1 1] _ _ rfl (by show [y.a] = _; rw [hya]) (w_1 1 (by decide))).perm (perm_w1 _ _ _)) ?_))
        rintro v L' ⟨es1, p1, c1, l1, N1, rfl, rfl, hok1, hm1⟩
        refine xo_rd (rd_assign rfl) rfl ?_
        refine xo_nil ?_
        refine xq_seq ?_
      have hl1 : es1.length = 1 := by
        have h := congrArg List.length hm1
        rw [List.length_map] at h
        exact h
      focus
        refine xc_seq ?_
        refine xc_seq ?_
        refine xc_region ?_
        refine xo_rd (rd_move rfl) rfl ?_
        refine xo_rd (rd_eql rfl rfl) rfl ?_
        refine xo_rd (rd_move rfl) rfl ?_
        refine xo_gskip rfl rfl rfl rfl ?_
        refine xo_gskip rfl rfl rfl rfl ?_
        refine xo_gskip rfl rfl rfl rfl ?_
        refine xo_rd (rd_pickf rfl rfl) rfl ?_
        refine xo_nil ?_
        refine xq_seq ?_
        refine xc_condf rfl ?_
        refine xc_skip ?_
        refine xq_seq ?_
      focus
        refine xc_seq ?_
        refine xc_region ?_
        refine xo_rd (rd_move rfl) rfl ?_
        refine xo_rd (rd_move rfl) rfl ?_
        refine xo_rd (rd_move rfl) rfl ?_
        refine xo_rd (rd_eql rfl rfl) rfl ?_
        refine xo_rd (rd_move rfl) rfl ?_
        refine xo_gskip rfl rfl rfl rfl ?_
        refine xo_gskip rfl rfl rfl rfl ?_
        refine xo_rd (rd_pickt rfl rfl) rfl ?_
        refine xo_ef rfl (ef_call rfl (XF.mono (xf_made (wKey2 1) 2 1 ⟨by decide, by decide⟩) ?_))
        rintro v L' ⟨y2, rfl, hya2, hyo2, rfl⟩
        refine xo_seg [_] y2.i.f.bl _ ?_
        refine xo_ef rfl (ef_call rfl (XF.mono (xf_made false 3 1 ⟨by decide, by decide⟩) ?_))
        rintro v L' ⟨y3, rfl, hya3, hyo3, rfl⟩
        refine xo_seg [_] y3.i.f.bl _ ?_
        refine xo_ef rfl (ef_buildL (T := 73) (len := 2) (s := 17) (cells := (y2.enc ++ y3.enc).toArray) rfl (by decide) (by decide) (by kernel_rfl) fun r39 => ?_)
        refine xo_ef rfl (ef_call rfl (XF.mono ((xf_PutE (M := (r39, .cells (y2.enc ++ y3.enc).toArray 45 (0, 0)) :: (y3.i.f.bl ++ (y2.i.f.bl ++ (N1 ++ ((r20, .cells y.enc.toArray 45 (0, 0)) :: (y.i.f.bl ++ L)))))) r 2 true false es1 p1 c1 l1 (hok1.mono (by intro z hz; simp [hz])) (some ⟨r39, 0, none⟩) 2 2 [y2, y3] (rs_2 (List.Mem.head _)) rfl (at_2 hyo2 hyo3) (few_2 hya2 hya3) (by omega) [madeE (wKey 1) 1 1] [madeE (wKey2 1) 2 1, madeE false 3 1] _ _ hm1 (by show [y2.a, y3.a] = _; rw [hya2, hya3]) (w_2 1 (by decide))).perm (perm_w2 _ _ y3.i.f.bl y2.i.f.bl l1 (N1 ++ ((r20, .cells y.enc.toArray 45 (0, 0)) :: (y.i.f.bl ++ L))))) ?_))
        rintro v L' ⟨es2, p2, c2, l2, N2, rfl, rfl, hok2, hm2⟩
        refine xo_rd (rd_addn rfl rfl (by omega) (by omega)) rfl ?_
        refine xo_rd (rd_assign rfl) rfl ?_
        refine xo_nil ?_
        refine xq_seq ?_
      have hsb : L.Sublist (N2 ++ ((r39, .cells (y2.enc ++ y3.enc).toArray 45 (0, 0)) :: (y3.i.f.bl ++ (y2.i.f.bl ++ (N1 ++ ((r20, .cells y.enc.toArray 45 (0, 0)) :: (y.i.f.bl ++ L))))))) :=
        ((((((List.sublist_append_right y.i.f.bl L).cons _).trans (List.sublist_append_right N1 _)).trans (List.sublist_append_right y2.i.f.bl _)).trans (List.sublist_append_right y3.i.f.bl _)).cons _).trans (List.sublist_append_right N2 _)
      generalize (N2 ++ ((r39, Obj.cells (y2.enc ++ y3.enc).toArray 45 (0, 0)) :: (y3.i.f.bl ++ (y2.i.f.bl ++ (N1 ++ ((r20, Obj.cells y.enc.toArray 45 (0, 0)) :: (y.i.f.bl ++ L)))))) : List Blk) = R at *
      have hel : es2.length = 3 := by
        have h := congrArg List.length hm2
        rw [List.length_map] at h
        exact h
      have hqr2 : ∀ L', (∀ z, z ∈ ((r, Obj.cells (qcl 2 true false p2 es2.length c2).toArray 108 (0, 0)) :: (l2 ++ R) : List Blk) → z ∈ L') → QR W L' (Qs.mk r 2 true false es2 p2 c2 l2) := fun L' h => hok2.qr fun z hz => h z (List.mem_append_left _ hz)
      have hwt := fun L' (h : ∀ z, z ∈ ((r, Obj.cells (qcl 2 true false p2 es2.length c2).toArray 108 (0, 0)) :: (l2 ++ R) : List Blk) → z ∈ L') => xf_waits (Qs.mk r 2 true false es2 p2 c2 l2) (hqr2 L' h) (fun e he => (hok2.at' e he).mono fun z hz => h z (List.mem_cons_of_mem _ (List.mem_append_right _ hz))) hok2.few (by dsimp only; omega) (fun e he => w_4 1 (by decide) e.a (hm2 ▸ List.mem_map.2 ⟨e, he, rfl⟩))
      have hwe : waitsA (Qs.mk r 2 true false es2 p2 c2 l2).a = [-1, 2, 3] := by
        show waitsA (es2.map En.a) = _
        rw [hm2]; exact w_3 1 (by decide)
      rw [hwe] at hwt
      refine xc_seq (xc_region ?_)
      refine xo_ef rfl (ef_buildL (T := 101) (len := 3) (s := 1) (cells := #[.int .i64 (-1), .int .i64 2, .int .i64 3]) rfl (by decide) (by decide) (by kernel_rfl) fun r42 => ?_)
      refine xo_ef rfl (ef_buildL (T := 101) (len := 3) (s := 1) (cells := #[.int .i64 (-1), .int .i64 2, .int .i64 3]) rfl (by decide) (by decide) (by kernel_rfl) fun r43 => ?_)
      refine xo_ef rfl (ef_buildL (T := 101) (len := 3) (s := 1) (cells := #[.int .i64 1, .int .i64 2, .int .i64 (-1)]) rfl (by decide) (by decide) (by kernel_rfl) fun r44 => ?_)
      refine xo_ef rfl (ef_buildL (T := 101) (len := 3) (s := 1) (cells := #[.int .i64 1, .int .i64 2, .int .i64 (-1)]) rfl (by decide) (by decide) (by kernel_rfl) fun r45 => ?_)
      refine xo_ef rfl (ef_buildL (T := 102) (len := 4) (s := 1) (cells := #[.slice (some ⟨r42, 0, none⟩) 3 3, .slice (some ⟨r43, 0, none⟩) 3 3, .slice (some ⟨r44, 0, none⟩) 3 3, .slice (some ⟨r45, 0, none⟩) 3 3]) rfl (by decide) (by decide) (by kernel_rfl) fun r46 => ?_)
      focus
        refine xo_rd (rd_move rfl) rfl ?_
        refine xo_rd (rd_indexAddr rfl rfl (by omega) (by omega)) rfl ?_
        refine xo_rd (rd_load1 rfl (Cl.o0 rfl)) rfl ?_
        refine xo_rd (rd_assign rfl) rfl ?_
        refine xo_nil ?_
        refine xq_seq ?_
        refine xc_seq ?_
        refine xc_region ?_
        refine xo_rd (rd_move rfl) rfl ?_
        refine xo_rd (rd_neq rfl rfl) rfl ?_
        refine xo_rd (rd_move rfl) rfl ?_
        refine xo_grd rfl rfl (rd_move rfl) rfl ?_
        refine xo_gef rfl rfl rfl (ef_call rfl (XF.mono (hwt _ (fun z hz => List.mem_append_right [_, _, _, _, _] hz)) ?_))
        rintro v L' ⟨qw, kw, NW, rfl, hRw, rfl⟩
        refine xo_grd rfl rfl (rd_move rfl) rfl ?_
        refine xo_gef rfl rfl rfl (ef_call rfl (XF.mono (xf_sameIT qw (some ⟨r43, 0, none⟩) es2.length 3 kw 3 [-1, 2, 3] [-1, 2, 3] rfl (by rw [hel]; rfl) rfl hRw (Rs.fresh (vs := ints .i64 [-1, 2, 3]) (T := 3) (fr := (0, 0)) (List.mem_append_right _ (by first | exact List.Mem.head _ | exact List.Mem.tail _ (List.Mem.head _) | exact List.Mem.tail _ (List.Mem.tail _ (List.Mem.head _)) | exact List.Mem.tail _ (List.Mem.tail _ (List.Mem.tail _ (List.Mem.head _))) | exact List.Mem.tail _ (List.Mem.tail _ (List.Mem.tail _ (List.Mem.tail _ (List.Mem.head _)))) | exact List.Mem.tail _ (List.Mem.tail _ (List.Mem.tail _ (List.Mem.tail _ (List.Mem.tail _ (List.Mem.head _))))) | exact List.Mem.tail _ (List.Mem.tail _ (List.Mem.tail _ (List.Mem.tail _ (List.Mem.tail _ (List.Mem.tail _ (List.Mem.head _)))))) | exact List.Mem.tail _ (List.Mem.tail _ (List.Mem.tail _ (List.Mem.tail _ (List.Mem.tail _ (List.Mem.tail _ (List.Mem.tail _ (List.Mem.head _)))))))))) (by omega)) ?_))
        rintro v L' ⟨rfl, rfl⟩
        refine xo_grd rfl rfl (rd_not rfl) rfl ?_
        refine xo_rd (rd_pickf rfl rfl) rfl ?_
        refine xo_nil ?_
        refine xq_seq ?_
        refine xc_condf rfl ?_
        refine xc_skip ?_
        refine xq_block ?_
        refine xq_seq ?_
        refine xc_region ?_
        refine xo_rd (rd_move rfl) rfl ?_
        refine xo_rd (rd_addn rfl rfl (by omega) (by omega)) rfl ?_
        refine xo_rd (rd_assign rfl) rfl ?_
        refine xo_nil ?_
      exact xq_roundK rfl 2 (by decide) (by decide) ((hsb.trans ((List.sublist_append_right l2 R).cons _)).trans ((List.sublist_append_right [_, _, _, _, _] _).trans (List.sublist_append_right NW _))) (by repeat (first | exact keep_nil | refine keep_cons rfl ?_))
    · skip
      focus
        refine xc_seq ?_
        refine xc_seq ?_
        refine xc_region ?_
        refine xo_rd (rd_move rfl) rfl ?_
        refine xo_rd (rd_lss rfl rfl) rfl ?_
        refine xo_nil ?_
        refine xq_seq ?_
        refine xc_condt rfl ?_
        refine xc_skip ?_
        refine xq_seq ?_
        refine xc_seq ?_
        refine xc_block ?_
        refine xc_seq ?_
        refine xc_region ?_
        refine xo_ef rfl (ef_call rfl (XF.mono (xf_NewE 2 true ⟨by decide, by decide⟩) ?_))
        rintro v L' ⟨r, rfl, rfl⟩
        refine xo_rd (rd_move rfl) rfl ?_
        refine xo_rd (rd_extract rfl rfl) rfl ?_
        refine xo_rd (rd_extract rfl rfl) rfl ?_
        refine xo_rd (rd_assign rfl) rfl ?_
        refine xo_rd (rd_assign rfl) rfl ?_
        refine xo_nil ?_
        refine xq_seq ?_
        refine xc_seq ?_
        refine xc_seq ?_
        refine xc_region ?_
        refine xo_rd (rd_move rfl) rfl ?_
        refine xo_rd (rd_neq rfl rfl) rfl ?_
        refine xo_nil ?_
        refine xq_seq ?_
        refine xc_condf rfl ?_
        refine xc_skip ?_
        refine xq_seq ?_
        refine xc_seq ?_
        refine xc_region ?_
        refine xo_rd (rd_move rfl) rfl ?_
        refine xo_rd (rd_move rfl) rfl ?_
        refine xo_rd (rd_eql rfl rfl) rfl ?_
        refine xo_ef rfl (ef_call rfl (XF.mono (xf_made (wKey 2) 1 1 ⟨by decide, by decide⟩) ?_))
        rintro v L' ⟨y, rfl, hya, hyo, rfl⟩
        refine xo_seg [_] y.i.f.bl _ ?_
        refine xo_ef rfl (ef_sliceA (vs := y.enc) rfl rfl (by rw [En.len]; decide) (by rw [En.len]; decide) fun r20 => ?_)
        refine xo_ef rfl (ef_call rfl (XF.mono ((xf_PutE (M := (r20, .cells y.enc.toArray 45 (0, 0)) :: (y.i.f.bl ++ L)) r 2 true false [] none 0 [] ⟨SlQ.nil, (fun e h => by cases h), (fun e h => by cases h), Nat.zero_le _⟩ (some ⟨r20, 0, none⟩) 1 1 [y] (rs_1 (List.Mem.head _)) rfl (fun e he => by rw [List.mem_singleton.1 he]; exact hyo.at.skip) (fun e he => by rw [List.mem_singleton.1 he]; exact madeF_few _ _ _ (congrArg Ea.f hya)) (by decide) [] [madeE (wKey 2) 1 1] _ _ rfl (by show [y.a] = _; rw [hya]) (w_1 2 (by decide))).perm (perm_w1 _ _ _)) ?_))
        rintro v L' ⟨es1, p1, c1, l1, N1, rfl, rfl, hok1, hm1⟩
        refine xo_rd (rd_assign rfl) rfl ?_
        refine xo_nil ?_
        refine xq_seq ?_
      have hl1 : es1.length = 1 := by
        have h := congrArg List.length hm1
        rw [List.length_map] at h
        exact h
      focus
        refine xc_seq ?_
        refine xc_seq ?_
        refine xc_region ?_
        refine xo_rd (rd_move rfl) rfl ?_
        refine xo_rd (rd_eql rfl rfl) rfl ?_
        refine xo_rd (rd_move rfl) rfl ?_
        refine xo_gskip rfl rfl rfl rfl ?_
        refine xo_gskip rfl rfl rfl rfl ?_
        refine xo_gskip rfl rfl rfl rfl ?_
        refine xo_rd (rd_pickf rfl rfl) rfl ?_
        refine xo_nil ?_
        refine xq_seq ?_
        refine xc_condf rfl ?_
        refine xc_skip ?_
        refine xq_seq ?_
      focus
        refine xc_seq ?_
        refine xc_region ?_
        refine xo_rd (rd_move rfl) rfl ?_
        refine xo_rd (rd_move rfl) rfl ?_
        refine xo_rd (rd_move rfl) rfl ?_
        refine xo_rd (rd_eql rfl rfl) rfl ?_
        refine xo_rd (rd_move rfl) rfl ?_
        refine xo_grd rfl rfl (rd_move rfl) rfl ?_
        refine xo_grd rfl rfl (rd_eql rfl rfl) rfl ?_
        refine xo_rd (rd_pickf rfl rfl) rfl ?_
        refine xo_ef rfl (ef_call rfl (XF.mono (xf_made (wKey2 2) 2 1 ⟨by decide, by decide⟩) ?_))
        rintro v L' ⟨y2, rfl, hya2, hyo2, rfl⟩
        refine xo_seg [_] y2.i.f.bl _ ?_
        refine xo_ef rfl (ef_call rfl (XF.mono (xf_made false 3 1 ⟨by decide, by decide⟩) ?_))
        rintro v L' ⟨y3, rfl, hya3, hyo3, rfl⟩
        refine xo_seg [_] y3.i.f.bl _ ?_
        refine xo_ef rfl (ef_buildL (T := 73) (len := 2) (s := 17) (cells := (y2.enc ++ y3.enc).toArray) rfl (by decide) (by decide) (by kernel_rfl) fun r39 => ?_)
        refine xo_ef rfl (ef_call rfl (XF.mono ((xf_PutE (M := (r39, .cells (y2.enc ++ y3.enc).toArray 45 (0, 0)) :: (y3.i.f.bl ++ (y2.i.f.bl ++ (N1 ++ ((r20, .cells y.enc.toArray 45 (0, 0)) :: (y.i.f.bl ++ L)))))) r 2 true false es1 p1 c1 l1 (hok1.mono (by intro z hz; simp [hz])) (some ⟨r39, 0, none⟩) 2 2 [y2, y3] (rs_2 (List.Mem.head _)) rfl (at_2 hyo2 hyo3) (few_2 hya2 hya3) (by omega) [madeE (wKey 2) 1 1] [madeE (wKey2 2) 2 1, madeE false 3 1] _ _ hm1 (by show [y2.a, y3.a] = _; rw [hya2, hya3]) (w_2 2 (by decide))).perm (perm_w2 _ _ y3.i.f.bl y2.i.f.bl l1 (N1 ++ ((r20, .cells y.enc.toArray 45 (0, 0)) :: (y.i.f.bl ++ L))))) ?_))
        rintro v L' ⟨es2, p2, c2, l2, N2, rfl, rfl, hok2, hm2⟩
        refine xo_rd (rd_addn rfl rfl (by omega) (by omega)) rfl ?_
        refine xo_rd (rd_assign rfl) rfl ?_
        refine xo_nil ?_
        refine xq_seq ?_
      have hsb : L.Sublist (N2 ++ ((r39, .cells (y2.enc ++ y3.enc).toArray 45 (0, 0)) :: (y3.i.f.bl ++ (y2.i.f.bl ++ (N1 ++ ((r20, .cells y.enc.toArray 45 (0, 0)) :: (y.i.f.bl ++ L))))))) :=
        ((((((List.sublist_append_right y.i.f.bl L).cons _).trans (List.sublist_append_right N1 _)).trans (List.sublist_append_right y2.i.f.bl _)).trans (List.sublist_append_right y3.i.f.bl _)).cons _).trans (List.sublist_append_right N2 _)
      generalize (N2 ++ ((r39, Obj.cells (y2.enc ++ y3.enc).toArray 45 (0, 0)) :: (y3.i.f.bl ++ (y2.i.f.bl ++ (N1 ++ ((r20, Obj.cells y.enc.toArray 45 (0, 0)) :: (y.i.f.bl ++ L)))))) : List Blk) = R at *
      have hel : es2.length = 3 := by
        have h := congrArg List.length hm2
        rw [List.length_map] at h
        exact h
      have hqr2 : ∀ L', (∀ z, z ∈ ((r, Obj.cells (qcl 2 true false p2 es2.length c2).toArray 108 (0, 0)) :: (l2 ++ R) : List Blk) → z ∈ L') → QR W L' (Qs.mk r 2 true false es2 p2 c2 l2) := fun L' h => hok2.qr fun z hz => h z (List.mem_append_left _ hz)
      have hwt := fun L' (h : ∀ z, z ∈ ((r, Obj.cells (qcl 2 true false p2 es2.length c2).toArray 108 (0, 0)) :: (l2 ++ R) : List Blk) → z ∈ L') => xf_waits (Qs.mk r 2 true false es2 p2 c2 l2) (hqr2 L' h) (fun e he => (hok2.at' e he).mono fun z hz => h z (List.mem_cons_of_mem _ (List.mem_append_right _ hz))) hok2.few (by dsimp only; omega) (fun e he => w_4 2 (by decide) e.a (hm2 ▸ List.mem_map.2 ⟨e, he, rfl⟩))
      have hwe : waitsA (Qs.mk r 2 true false es2 p2 c2 l2).a = [1, 2, -1] := by
        show waitsA (es2.map En.a) = _
        rw [hm2]; exact w_3 2 (by decide)
      rw [hwe] at hwt
      refine xc_seq (xc_region ?_)
      refine xo_ef rfl (ef_buildL (T := 101) (len := 3) (s := 1) (cells := #[.int .i64 (-1), .int .i64 2, .int .i64 3]) rfl (by decide) (by decide) (by kernel_rfl) fun r42 => ?_)
      refine xo_ef rfl (ef_buildL (T := 101) (len := 3) (s := 1) (cells := #[.int .i64 (-1), .int .i64 2, .int .i64 3]) rfl (by decide) (by decide) (by kernel_rfl) fun r43 => ?_)
      refine xo_ef rfl (ef_buildL (T := 101) (len := 3) (s := 1) (cells := #[.int .i64 1, .int .i64 2, .int .i64 (-1)]) rfl (by decide) (by decide) (by kernel_rfl) fun r44 => ?_)
      refine xo_ef rfl (ef_buildL (T := 101) (len := 3) (s := 1) (cells := #[.int .i64 1, .int .i64 2, .int .i64 (-1)]) rfl (by decide) (by decide) (by kernel_rfl) fun r45 => ?_)
      refine xo_ef rfl (ef_buildL (T := 102) (len := 4) (s := 1) (cells := #[.slice (some ⟨r42, 0, none⟩) 3 3, .slice (some ⟨r43, 0, none⟩) 3 3, .slice (some ⟨r44, 0, none⟩) 3 3, .slice (some ⟨r45, 0, none⟩) 3 3]) rfl (by decide) (by decide) (by kernel_rfl) fun r46 => ?_)
      focus
        refine xo_rd (rd_move rfl) rfl ?_
        refine xo_rd (rd_indexAddr rfl rfl (by omega) (by omega)) rfl ?_
        refine xo_rd (rd_load1 rfl (Cl.o0 rfl)) rfl ?_
        refine xo_rd (rd_assign rfl) rfl ?_
        refine xo_nil ?_
        refine xq_seq ?_
        refine xc_seq ?_
        refine xc_region ?_
        refine xo_rd (rd_move rfl) rfl ?_
        refine xo_rd (rd_neq rfl rfl) rfl ?_
        refine xo_rd (rd_move rfl) rfl ?_
        refine xo_grd rfl rfl (rd_move rfl) rfl ?_
        refine xo_gef rfl rfl rfl (ef_call rfl (XF.mono (hwt _ (fun z hz => List.mem_append_right [_, _, _, _, _] hz)) ?_))
        rintro v L' ⟨qw, kw, NW, rfl, hRw, rfl⟩
        refine xo_grd rfl rfl (rd_move rfl) rfl ?_
        refine xo_gef rfl rfl rfl (ef_call rfl (XF.mono (xf_sameIT qw (some ⟨r44, 0, none⟩) es2.length 3 kw 3 [1, 2, -1] [1, 2, -1] rfl (by rw [hel]; rfl) rfl hRw (Rs.fresh (vs := ints .i64 [1, 2, -1]) (T := 3) (fr := (0, 0)) (List.mem_append_right _ (by first | exact List.Mem.head _ | exact List.Mem.tail _ (List.Mem.head _) | exact List.Mem.tail _ (List.Mem.tail _ (List.Mem.head _)) | exact List.Mem.tail _ (List.Mem.tail _ (List.Mem.tail _ (List.Mem.head _))) | exact List.Mem.tail _ (List.Mem.tail _ (List.Mem.tail _ (List.Mem.tail _ (List.Mem.head _)))) | exact List.Mem.tail _ (List.Mem.tail _ (List.Mem.tail _ (List.Mem.tail _ (List.Mem.tail _ (List.Mem.head _))))) | exact List.Mem.tail _ (List.Mem.tail _ (List.Mem.tail _ (List.Mem.tail _ (List.Mem.tail _ (List.Mem.tail _ (List.Mem.head _)))))) | exact List.Mem.tail _ (List.Mem.tail _ (List.Mem.tail _ (List.Mem.tail _ (List.Mem.tail _ (List.Mem.tail _ (List.Mem.tail _ (List.Mem.head _)))))))))) (by omega)) ?_))
        rintro v L' ⟨rfl, rfl⟩
        refine xo_grd rfl rfl (rd_not rfl) rfl ?_
        refine xo_rd (rd_pickf rfl rfl) rfl ?_
        refine xo_nil ?_
        refine xq_seq ?_
        refine xc_condf rfl ?_
        refine xc_skip ?_
        refine xq_block ?_
        refine xq_seq ?_
        refine xc_region ?_
        refine xo_rd (rd_move rfl) rfl ?_
        refine xo_rd (rd_addn rfl rfl (by omega) (by omega)) rfl ?_
        refine xo_rd (rd_assign rfl) rfl ?_
        refine xo_nil ?_
      exact xq_roundK rfl 3 (by decide) (by decide) ((hsb.trans ((List.sublist_append_right l2 R).cons _)).trans ((List.sublist_append_right [_, _, _, _, _] _).trans (List.sublist_append_right NW _))) (by repeat (first | exact keep_nil | refine keep_cons rfl ?_))
    · skip
      focus
        refine xc_seq ?_
        refine xc_seq ?_
        refine xc_region ?_
        refine xo_rd (rd_move rfl) rfl ?_
        refine xo_rd (rd_lss rfl rfl) rfl ?_
        refine xo_nil ?_
        refine xq_seq ?_
        refine xc_condt rfl ?_
        refine xc_skip ?_
        refine xq_seq ?_
        refine xc_seq ?_
        refine xc_block ?_
        refine xc_seq ?_
        refine xc_region ?_
        refine xo_ef rfl (ef_call rfl (XF.mono (xf_NewE 2 true ⟨by decide, by decide⟩) ?_))
        rintro v L' ⟨r, rfl, rfl⟩
        refine xo_rd (rd_move rfl) rfl ?_
        refine xo_rd (rd_extract rfl rfl) rfl ?_
        refine xo_rd (rd_extract rfl rfl) rfl ?_
        refine xo_rd (rd_assign rfl) rfl ?_
        refine xo_rd (rd_assign rfl) rfl ?_
        refine xo_nil ?_
        refine xq_seq ?_
        refine xc_seq ?_
        refine xc_seq ?_
        refine xc_region ?_
        refine xo_rd (rd_move rfl) rfl ?_
        refine xo_rd (rd_neq rfl rfl) rfl ?_
        refine xo_nil ?_
        refine xq_seq ?_
        refine xc_condf rfl ?_
        refine xc_skip ?_
        refine xq_seq ?_
        refine xc_seq ?_
        refine xc_region ?_
        refine xo_rd (rd_move rfl) rfl ?_
        refine xo_rd (rd_move rfl) rfl ?_
        refine xo_rd (rd_eql rfl rfl) rfl ?_
        refine xo_ef rfl (ef_call rfl (XF.mono (xf_made (wKey 3) 1 1 ⟨by decide, by decide⟩) ?_))
        rintro v L' ⟨y, rfl, hya, hyo, rfl⟩
        refine xo_seg [_] y.i.f.bl _ ?_
        refine xo_ef rfl (ef_sliceA (vs := y.enc) rfl rfl (by rw [En.len]; decide) (by rw [En.len]; decide) fun r20 => ?_)
        refine xo_ef rfl (ef_call rfl (XF.mono ((xf_PutE (M := (r20, .cells y.enc.toArray 45 (0, 0)) :: (y.i.f.bl ++ L)) r 2 true false [] none 0 [] ⟨SlQ.nil, (fun e h => by cases h), (fun e h => by cases h), Nat.zero_le _⟩ (some ⟨r20, 0, none⟩) 1 1 [y] (rs_1 (List.Mem.head _)) rfl (fun e he => by rw [List.mem_singleton.1 he]; exact hyo.at.skip) (fun e he => by rw [List.mem_singleton.1 he]; exact madeF_few _ _ _ (congrArg Ea.f hya)) (by decide) [] [madeE (wKey 3) 1 1] _ _ rfl (by show [y.a] = _; rw [hya]) (w_1 3 (by decide))).perm (perm_w1 _ _ _)) ?_))
        rintro v L' ⟨es1, p1, c1, l1, N1, rfl, rfl, hok1, hm1⟩
        refine xo_rd (rd_assign rfl) rfl ?_
        refine xo_nil ?_
        refine xq_seq ?_
      have hl1 : es1.length = 1 := by
        have h := congrArg List.length hm1
        rw [List.length_map] at h
        exact h
      focus
        refine xc_seq ?_
        refine xc_seq ?_
        refine xc_region ?_
        refine xo_rd (rd_move rfl) rfl ?_
        refine xo_rd (rd_eql rfl rfl) rfl ?_
        refine xo_rd (rd_move rfl) rfl ?_
        refine xo_grd rfl rfl (rd_move rfl) rfl ?_
        refine xo_gef rfl rfl rfl (ef_call rfl (XF.mono ((by have h := xf_Begin (W := W) (R := l1 ++ (N1 ++ ((r20, .cells y.enc.toArray 45 (0, 0)) :: (y.i.f.bl ++ L)))) r 2 true false es1 p1 c1 hok1.o.rsl; rw [hm1, w_5 3 (by decide)] at h; exact h)) ?_))
        rintro v L' ⟨rfl, rfl⟩
        refine xo_grd rfl rfl (rd_not rfl) rfl ?_
        refine xo_rd (rd_pickt rfl rfl) rfl ?_
        refine xo_nil ?_
        refine xq_seq ?_
        refine xc_condf rfl ?_
        refine xc_skip ?_
        refine xq_seq ?_
      focus
        refine xc_seq ?_
        refine xc_region ?_
        refine xo_rd (rd_move rfl) rfl ?_
        refine xo_rd (rd_move rfl) rfl ?_
        refine xo_rd (rd_move rfl) rfl ?_
        refine xo_rd (rd_eql rfl rfl) rfl ?_
        refine xo_rd (rd_move rfl) rfl ?_
        refine xo_grd rfl rfl (rd_move rfl) rfl ?_
        refine xo_grd rfl rfl (rd_eql rfl rfl) rfl ?_
        refine xo_rd (rd_pickf rfl rfl) rfl ?_
        refine xo_ef rfl (ef_call rfl (XF.mono (xf_made (wKey2 3) 2 1 ⟨by decide, by decide⟩) ?_))
        rintro v L' ⟨y2, rfl, hya2, hyo2, rfl⟩
        refine xo_seg [_] y2.i.f.bl _ ?_
        refine xo_ef rfl (ef_call rfl (XF.mono (xf_made false 3 1 ⟨by decide, by decide⟩) ?_))
        rintro v L' ⟨y3, rfl, hya3, hyo3, rfl⟩
        refine xo_seg [_] y3.i.f.bl _ ?_
        refine xo_ef rfl (ef_buildL (T := 73) (len := 2) (s := 17) (cells := (y2.enc ++ y3.enc).toArray) rfl (by decide) (by decide) (by kernel_rfl) fun r39 => ?_)
        refine xo_ef rfl (ef_call rfl (XF.mono ((xf_PutE (M := (r39, .cells (y2.enc ++ y3.enc).toArray 45 (0, 0)) :: (y3.i.f.bl ++ (y2.i.f.bl ++ (N1 ++ ((r20, .cells y.enc.toArray 45 (0, 0)) :: (y.i.f.bl ++ L)))))) r 2 true true es1 p1 c1 l1 ⟨hok1.o, fun e he => (hok1.at' e he).mono (by intro z hz; simp [hz]), hok1.few, hok1.len⟩ (some ⟨r39, 0, none⟩) 2 2 [y2, y3] (rs_2 (List.Mem.head _)) rfl (at_2 hyo2 hyo3) (few_2 hya2 hya3) (by omega) [madeE (wKey 3) 1 1] [madeE (wKey2 3) 2 1, madeE false 3 1] _ _ hm1 (by show [y2.a, y3.a] = _; rw [hya2, hya3]) (w_2 3 (by decide))).perm (perm_w2 _ _ y3.i.f.bl y2.i.f.bl l1 (N1 ++ ((r20, .cells y.enc.toArray 45 (0, 0)) :: (y.i.f.bl ++ L))))) ?_))
        rintro v L' ⟨es2, p2, c2, l2, N2, rfl, rfl, hok2, hm2⟩
        refine xo_rd (rd_addn rfl rfl (by omega) (by omega)) rfl ?_
        refine xo_rd (rd_assign rfl) rfl ?_
        refine xo_nil ?_
        refine xq_seq ?_
      have hsb : L.Sublist (N2 ++ ((r39, .cells (y2.enc ++ y3.enc).toArray 45 (0, 0)) :: (y3.i.f.bl ++ (y2.i.f.bl ++ (N1 ++ ((r20, .cells y.enc.toArray 45 (0, 0)) :: (y.i.f.bl ++ L))))))) :=
        ((((((List.sublist_append_right y.i.f.bl L).cons _).trans (List.sublist_append_right N1 _)).trans (List.sublist_append_right y2.i.f.bl _)).trans (List.sublist_append_right y3.i.f.bl _)).cons _).trans (List.sublist_append_right N2 _)
      generalize (N2 ++ ((r39, Obj.cells (y2.enc ++ y3.enc).toArray 45 (0, 0)) :: (y3.i.f.bl ++ (y2.i.f.bl ++ (N1 ++ ((r20, Obj.cells y.enc.toArray 45 (0, 0)) :: (y.i.f.bl ++ L)))))) : List Blk) = R at *
      have hel : es2.length = 3 := by
        have h := congrArg List.length hm2
        rw [List.length_map] at h
        exact h
      have hqr2 : ∀ L', (∀ z, z ∈ ((r, Obj.cells (qcl 2 true true p2 es2.length c2).toArray 108 (0, 0)) :: (l2 ++ R) : List Blk) → z ∈ L') → QR W L' (Qs.mk r 2 true true es2 p2 c2 l2) := fun L' h => hok2.qr fun z hz => h z (List.mem_append_left _ hz)
      have hwt := fun L' (h : ∀ z, z ∈ ((r, Obj.cells (qcl 2 true true p2 es2.length c2).toArray 108 (0, 0)) :: (l2 ++ R) : List Blk) → z ∈ L') => xf_waits (Qs.mk r 2 true true es2 p2 c2 l2) (hqr2 L' h) (fun e he => (hok2.at' e he).mono fun z hz => h z (List.mem_cons_of_mem _ (List.mem_append_right _ hz))) hok2.few (by dsimp only; omega) (fun e he => w_4 3 (by decide) e.a (hm2 ▸ List.mem_map.2 ⟨e, he, rfl⟩))
      have hwe : waitsA (Qs.mk r 2 true true es2 p2 c2 l2).a = [1, 2, -1] := by
        show waitsA (es2.map En.a) = _
        rw [hm2]; exact w_3 3 (by decide)
      rw [hwe] at hwt
      refine xc_seq (xc_region ?_)
      refine xo_ef rfl (ef_buildL (T := 101) (len := 3) (s := 1) (cells := #[.int .i64 (-1), .int .i64 2, .int .i64 3]) rfl (by decide) (by decide) (by kernel_rfl) fun r42 => ?_)
      refine xo_ef rfl (ef_buildL (T := 101) (len := 3) (s := 1) (cells := #[.int .i64 (-1), .int .i64 2, .int .i64 3]) rfl (by decide) (by decide) (by kernel_rfl) fun r43 => ?_)
      refine xo_ef rfl (ef_buildL (T := 101) (len := 3) (s := 1) (cells := #[.int .i64 1, .int .i64 2, .int .i64 (-1)]) rfl (by decide) (by decide) (by kernel_rfl) fun r44 => ?_)
      refine xo_ef rfl (ef_buildL (T := 101) (len := 3) (s := 1) (cells := #[.int .i64 1, .int .i64 2, .int .i64 (-1)]) rfl (by decide) (by decide) (by kernel_rfl) fun r45 => ?_)
      refine xo_ef rfl (ef_buildL (T := 102) (len := 4) (s := 1) (cells := #[.slice (some ⟨r42, 0, none⟩) 3 3, .slice (some ⟨r43, 0, none⟩) 3 3, .slice (some ⟨r44, 0, none⟩) 3 3, .slice (some ⟨r45, 0, none⟩) 3 3]) rfl (by decide) (by decide) (by kernel_rfl) fun r46 => ?_)
      focus
        refine xo_rd (rd_move rfl) rfl ?_
        refine xo_rd (rd_indexAddr rfl rfl (by omega) (by omega)) rfl ?_
        refine xo_rd (rd_load1 rfl (Cl.o0 rfl)) rfl ?_
        refine xo_rd (rd_assign rfl) rfl ?_
        refine xo_nil ?_
        refine xq_seq ?_
        refine xc_seq ?_
        refine xc_region ?_
        refine xo_rd (rd_move rfl) rfl ?_
        refine xo_rd (rd_neq rfl rfl) rfl ?_
        refine xo_rd (rd_move rfl) rfl ?_
        refine xo_grd rfl rfl (rd_move rfl) rfl ?_
        refine xo_gef rfl rfl rfl (ef_call rfl (XF.mono (hwt _ (fun z hz => List.mem_append_right [_, _, _, _, _] hz)) ?_))
        rintro v L' ⟨qw, kw, NW, rfl, hRw, rfl⟩
        refine xo_grd rfl rfl (rd_move rfl) rfl ?_
        refine xo_gef rfl rfl rfl (ef_call rfl (XF.mono (xf_sameIT qw (some ⟨r45, 0, none⟩) es2.length 3 kw 3 [1, 2, -1] [1, 2, -1] rfl (by rw [hel]; rfl) rfl hRw (Rs.fresh (vs := ints .i64 [1, 2, -1]) (T := 3) (fr := (0, 0)) (List.mem_append_right _ (by first | exact List.Mem.head _ | exact List.Mem.tail _ (List.Mem.head _) | exact List.Mem.tail _ (List.Mem.tail _ (List.Mem.head _)) | exact List.Mem.tail _ (List.Mem.tail _ (List.Mem.tail _ (List.Mem.head _))) | exact List.Mem.tail _ (List.Mem.tail _ (List.Mem.tail _ (List.Mem.tail _ (List.Mem.head _)))) | exact List.Mem.tail _ (List.Mem.tail _ (List.Mem.tail _ (List.Mem.tail _ (List.Mem.tail _ (List.Mem.head _))))) | exact List.Mem.tail _ (List.Mem.tail _ (List.Mem.tail _ (List.Mem.tail _ (List.Mem.tail _ (List.Mem.tail _ (List.Mem.head _)))))) | exact List.Mem.tail _ (List.Mem.tail _ (List.Mem.tail _ (List.Mem.tail _ (List.Mem.tail _ (List.Mem.tail _ (List.Mem.tail _ (List.Mem.head _)))))))))) (by omega)) ?_))
        rintro v L' ⟨rfl, rfl⟩
        refine xo_grd rfl rfl (rd_not rfl) rfl ?_
        refine xo_rd (rd_pickf rfl rfl) rfl ?_
        refine xo_nil ?_
        refine xq_seq ?_
        refine xc_condf rfl ?_
        refine xc_skip ?_
        refine xq_block ?_
        refine xq_seq ?_
        refine xc_region ?_
        refine xo_rd (rd_move rfl) rfl ?_
        refine xo_rd (rd_addn rfl rfl (by omega) (by omega)) rfl ?_
        refine xo_rd (rd_assign rfl) rfl ?_
        refine xo_nil ?_
      exact xq_roundK rfl 4 (by decide) (by decide) ((hsb.trans ((List.sublist_append_right l2 R).cons _)).trans ((List.sublist_append_right [_, _, _, _, _] _).trans (List.sublist_append_right NW _))) (by repeat (first | exact keep_nil | refine keep_cons rfl ?_))
  · skip
    focus
      refine xc_seq ?_
      refine xc_seq ?_
      refine xc_region ?_
      refine xo_rd (rd_move rfl) rfl ?_
      refine xo_rd (rd_lss rfl rfl) rfl ?_
      refine xo_nil ?_
      refine xq_seq ?_
      refine xc_dec rfl (fun h1 => (by exfalso; omega)) (fun h1 => ?_)
      refine xc_exit ?_
      refine xq_then_exit ?_
      refine xq_then_exit ?_
      refine xq_block_hit ?_
      refine xq_seq ?_
      refine xc_seq ?_
      refine xc_region ?_
      refine xo_rd (rd_assign rfl) rfl ?_
      refine xo_nil ?_
      refine xq_seq ?_
      refine xc_ret ?_
    exact xq_ret1 (.inl rfl) Try.results9 rfl ⟨rfl, rfl⟩
end Go.Proofs.Ytpheiklhjelkcaa.X
/-
  Chapter 19: calls that come in, and whether they are few: a walk of my own.
-/
namespace Go.Proofs.Ytpheiklhjelkcaa.X
open Go Go.RowKit
set_option linter.unusedVariables false
set_option linter.unusedSimpArgs false
/-- A call. -/
structure Ac where
  d : Int
  e : En
def Ac.enc (x : Ac) : List Value := [.int .i64 x.d] ++ x.e.enc
theorem Ac.len (x : Ac) : x.enc.length = 18 := rfl
theorem Ac.ent {x : Ac} {j : Nat} {u : Value} (h : x.e.enc[j]? = some u) : x.enc[1 + j]? = some u := by
  unfold Ac.enc
  rw [List.getElem?_append_right (by show (1 : Nat) ≤ 1 + j; omega), ← h]
  congr 1; show 1 + j - 1 = j; omega
theorem Ac.frm {x : Ac} {j : Nat} {u : Value} (h : x.e.i.f.enc[j]? = some u) : x.enc[7 + j]? = some u := by
  have : x.e.enc[6 + j]? = some u := by
    show (([.int .u64 x.e.g, .int .i64 x.e.s, .bool x.e.i.lo, .bool x.e.i.kn, .int .u8 x.e.i.ti, .bool x.e.i.dr] : List Value) ++ x.e.i.f.enc)[6 + j]? = _
    rw [List.getElem?_append_right (by show (6 : Nat) ≤ 6 + j; omega), ← h]
    congr 1; show 6 + j - 6 = j; omega
  have h2 := Ac.ent this
  rwa [show 1 + (6 + j) = 7 + j by omega] at h2
/-- A row of calls that can be read. -/
structure AcR (W : World) (L : List Blk) (p : Option Addr) (xs : List Ac) : Prop where
  rs : Rs W L p (xs.flatMap Ac.enc)
  at' : ∀ x, x ∈ xs → x.e.i.f.At W L
theorem AcR.mono {W : World} {L L' : List Blk} {p : Option Addr} {xs : List Ac} (h : AcR W L p xs) (hm : ∀ z, z ∈ L → z ∈ L') : AcR W L' p xs := ⟨h.rs.mono hm, fun x hx => (h.at' x hx).mono hm⟩
theorem AcR.over {W w : World} {L : List Blk} {p : Option Addr} {xs : List Ac} (h : AcR W L p xs) (hw : Hp W w L) : AcR w [] p xs := ⟨h.rs.over hw, fun x hx => (h.at' x hx).over hw⟩
set_option maxRecDepth 8000 in
theorem xf_few {W : World} {L : List Blk} (p : Option Addr) (n c : Nat) (xs : List Ac) (hx : xs.length = n) (hr : AcR W L p xs) (most : Int) (hm : most ≤ 199) :
    XF Try.prog W 8 #[.slice p n c, .int .i64 most] L (fun v L' => ∃ b, v = .bool b ∧ (b = true → (n : Int) ≤ most ∧ ∀ x, x ∈ xs → x.e.i.f.Sm) ∧ L' = L) := by
  refine xf_enter (args := [_, _]) Try.func8 rfl Try.ntmps8 rfl ?_
  focus
    refine xc_seq ?_
    refine xc_region ?_
    refine xo_rd (rd_assign rfl) rfl ?_
    refine xo_nil ?_
    refine xq_seq ?_
    refine xc_seq ?_
    refine xc_seq ?_
    refine xc_region ?_
    refine xo_rd (rd_assign rfl) rfl ?_
    refine xo_nil ?_
    refine xq_seq ?_
    refine xc_block ?_
  refine xc_loopK (ι := Nat) (fun i => i ≤ n ∧ i ≤ 200 ∧ ∀ x, x ∈ xs.take i → x.e.i.f.Sm) (fun i => n - i) (fun i => [(0, .slice p n c), (1, .int .i64 most), (5, .int .i64 i)]) 0 ⟨Nat.zero_le _, by decide, by simp⟩ (by repeat (first | exact keep_nil | refine keep_cons rfl ?_)) ?_
  rintro i ⟨hi, hi2, hs⟩
  by_cases hin : i < n
  · by_cases hi6 : i < 200
    · obtain ⟨b, o, hp, hc⟩ := hr.rs.rows Ac.len (by decide) (by omega)
      subst hp
      have hci := hc i (by omega)
      have k1 := hr.at' xs[i] (List.getElem_mem _)
      have e1 : xs[i]? = some xs[i] := List.getElem?_eq_getElem (by omega)
      generalize xs[i] = x at *
      have hcF : ∀ (j : Nat) (u : Value), x.e.i.f.enc[j]? = some u → Cl W L b (o + (i : Int).toNat * 18 + 1 + 2 + 4 + j) u := fun j u hj => by
        have := hci (7 + j) u (Ac.frm hj)
        rwa [show o + i * 18 + (7 + j) = o + (i : Int).toNat * 18 + 1 + 2 + 4 + j by omega] at this
      focus
        refine xc_seq ?_
        refine xc_seq ?_
        refine xc_region ?_
        refine xo_rd (rd_move rfl) rfl ?_
        refine xo_rd (rd_move rfl) rfl ?_
        refine xo_rd (rd_len rfl) rfl ?_
        refine xo_rd (rd_lss rfl rfl) rfl ?_
        refine xo_rd (rd_move rfl) rfl ?_
        refine xo_dec 10 rfl (fun hz1 => ?_) (fun hz1 => (by exfalso; omega))
        refine xo_grd rfl rfl (rd_move rfl) rfl ?_
        refine xo_grd rfl rfl (rd_lss rfl rfl) rfl ?_
        refine xo_rd (rd_pickt rfl rfl) rfl ?_
        refine xo_nil ?_
        refine xq_seq ?_
        refine xc_dec rfl (fun hz2 => ?_) (fun hz2 => (by exfalso; omega))
        refine xc_skip ?_
        refine xq_seq ?_
        refine xc_seq ?_
        refine xc_block ?_
        refine xc_seq ?_
        refine xc_region ?_
        refine xo_rd (rd_move rfl) rfl ?_
        refine xo_rd (rd_move rfl) rfl ?_
        refine xo_rd (rd_indexAddr rfl rfl (by omega) (by omega)) rfl ?_
        refine xo_rd (rd_fieldAddr rfl) rfl ?_
        refine xo_rd (rd_fieldAddr rfl) rfl ?_
        refine xo_rd (rd_fieldAddr rfl) rfl ?_
        refine xo_rd (rd_loadA (vs := x.e.i.f.enc) rfl rfl hcF) rfl ?_
        refine xo_ef rfl (ef_call rfl (XF.mono (xf_FewFrame x.e.i.f k1) ?_))
        rintro v L' ⟨b2, rfl, hb2, rfl⟩
        refine xo_rd (rd_not rfl) rfl ?_
        refine xo_nil ?_
        refine xq_seq ?_
        refine xc_cond rfl (fun hz3 => ?_) (fun hz3 => ?_)
        refine xc_seq ?_
        refine xc_region ?_
        refine xo_rd (rd_assign rfl) rfl ?_
        refine xo_nil ?_
        refine xq_seq ?_
        refine xc_ret ?_
        refine xq_block_ret ?_
        refine xq_then_ret ?_
        refine xq_then_ret ?_
        refine xq_block_ret ?_
        refine xq_then_ret ?_
        rotate_left
        refine xc_skip ?_
        refine xq_block ?_
        refine xq_seq ?_
        refine xc_region ?_
        refine xo_rd (rd_move rfl) rfl ?_
        refine xo_rd (rd_addn rfl rfl (by omega) (by omega)) rfl ?_
        refine xo_rd (rd_assign rfl) rfl ?_
        refine xo_nil ?_
        rotate_left
      · exact xq_ret1 (.inl rfl) Try.results8 rfl ⟨false, rfl, (fun h => by cases h), rfl⟩
      · refine xq_roundK rfl (i + 1) ⟨by omega, by omega, fun y hy => ?_⟩ (by omega) (List.Sublist.refl _) (by repeat (first | exact keep_nil | refine keep_cons rfl ?_))
        rw [List.take_add_one, e1] at hy
        rcases List.mem_append.1 hy with h | h
        · exact hs y h
        · rw [List.mem_singleton.1 h]; exact hb2 (by simpa using hz3)
    · skip
      focus
        refine xc_seq ?_
        refine xc_seq ?_
        refine xc_region ?_
        refine xo_rd (rd_move rfl) rfl ?_
        refine xo_rd (rd_move rfl) rfl ?_
        refine xo_rd (rd_len rfl) rfl ?_
        refine xo_rd (rd_lss rfl rfl) rfl ?_
        refine xo_rd (rd_move rfl) rfl ?_
        refine xo_dec 10 rfl (fun h1 => ?_) (fun h1 => (by exfalso; omega))
        refine xo_grd rfl rfl (rd_move rfl) rfl ?_
        refine xo_grd rfl rfl (rd_lss rfl rfl) rfl ?_
        refine xo_rd (rd_pickt rfl rfl) rfl ?_
        refine xo_nil ?_
        refine xq_seq ?_
        refine xc_dec rfl (fun h2 => (by exfalso; omega)) (fun h2 => ?_)
        refine xc_exit ?_
        refine xq_then_exit ?_
        refine xq_then_exit ?_
        refine xq_block_hit ?_
        refine xq_seq ?_
        refine xc_seq ?_
        refine xc_region ?_
        refine xo_rd (rd_move rfl) rfl ?_
        refine xo_rd (rd_len rfl) rfl ?_
        refine xo_rd (rd_move rfl) rfl ?_
        refine xo_rd (rd_leq rfl rfl) rfl ?_
        refine xo_rd (rd_assign rfl) rfl ?_
        refine xo_nil ?_
        refine xq_seq ?_
        refine xc_ret ?_
      refine xq_ret1 (.inl rfl) Try.results8 rfl ⟨false, ?_, (fun h => by cases h), rfl⟩
      rw [decide_eq_false (by omega)]
  · skip
    focus
      refine xc_seq ?_
      refine xc_seq ?_
      refine xc_region ?_
      refine xo_rd (rd_move rfl) rfl ?_
      refine xo_rd (rd_move rfl) rfl ?_
      refine xo_rd (rd_len rfl) rfl ?_
      refine xo_rd (rd_lss rfl rfl) rfl ?_
      refine xo_rd (rd_move rfl) rfl ?_
      refine xo_dec 10 rfl (fun h1 => (by exfalso; omega)) (fun h1 => ?_)
      refine xo_gskip rfl rfl rfl rfl ?_
      refine xo_gskip rfl rfl rfl rfl ?_
      refine xo_rd (rd_pickf rfl rfl) rfl ?_
      refine xo_nil ?_
      refine xq_seq ?_
      refine xc_condf rfl ?_
      refine xc_exit ?_
      refine xq_then_exit ?_
      refine xq_then_exit ?_
      refine xq_block_hit ?_
      refine xq_seq ?_
      refine xc_seq ?_
      refine xc_region ?_
      refine xo_rd (rd_move rfl) rfl ?_
      refine xo_rd (rd_len rfl) rfl ?_
      refine xo_rd (rd_move rfl) rfl ?_
      refine xo_rd (rd_leq rfl rfl) rfl ?_
      refine xo_rd (rd_assign rfl) rfl ?_
      refine xo_nil ?_
      refine xq_seq ?_
      refine xc_ret ?_
    refine xq_ret1 (.inl rfl) Try.results8 rfl ⟨_, rfl, fun h => ⟨by have := of_decide_eq_true h; omega, ?_⟩, rfl⟩
    rw [List.take_of_length_le (by omega)] at hs; exact hs
end Go.Proofs.Ytpheiklhjelkcaa.X
/-
  Chapter 19: the reference's queue; what is read of it: walks of my own.
-/
namespace Go.Proofs.Ytpheiklhjelkcaa.X
open Go Go.RowKit
set_option linter.unusedVariables false
set_option linter.unusedSimpArgs false
theorem xf_Right {W : World} {L : List Blk} (b : Int) : XF Try.prog W 11 #[.int .i64 b] L (fun v L' => v = .bool (decide (1 ≤ b) && decide (b ≤ 256)) ∧ L' = L) := by
  refine xf_enter (args := [_]) Try.func11 rfl Try.ntmps11 rfl ?_
  focus
    refine xc_seq ?_
    refine xc_region ?_
    refine xo_rd (rd_assign rfl) rfl ?_
    refine xo_nil ?_
    refine xq_seq ?_
    refine xc_seq ?_
    refine xc_region ?_
    refine xo_rd (rd_move rfl) rfl ?_
    refine xo_rd (rd_geq rfl rfl) rfl ?_
    refine xo_rd (rd_move rfl) rfl ?_
    refine xo_dec 5 rfl (fun hz1 => ?_) (fun hz1 => ?_)
    refine xo_grd rfl rfl (rd_move rfl) rfl ?_
    refine xo_grd rfl rfl (rd_leq rfl rfl) rfl ?_
    refine xo_rd (rd_pickt rfl rfl) rfl ?_
    refine xo_rd (rd_assign rfl) rfl ?_
    refine xo_nil ?_
    refine xq_seq ?_
    refine xc_ret ?_
    rotate_left
    refine xo_gskip rfl rfl rfl rfl ?_
    refine xo_gskip rfl rfl rfl rfl ?_
    refine xo_rd (rd_pickf rfl rfl) rfl ?_
    refine xo_rd (rd_assign rfl) rfl ?_
    refine xo_nil ?_
    refine xq_seq ?_
    refine xc_ret ?_
    rotate_left
  all_goals exact (xq_ret1 (.inl rfl) Try.results11 rfl ⟨congrArg Value.bool (by first | (rw [decide_eq_false (p := 1 ≤ b) (by omega)]; rfl) | (rw [decide_eq_true (p := 1 ≤ b) (by omega)]; rfl)), rfl⟩)
theorem xf_rfresh {W : World} {L : List Blk} (b : Int) (ca bg : Bool) (es : List En) (p : Option Addr) (c : Nat) (hr : Rs W L p (es.flatMap En.enc)) (i : Nat) (hi : i < es.length) (r : Bool) (hres : freshA (es.map En.a) bg i = r) :
    XF Try.prog W 49 #[.agg (qcl b ca bg p es.length c).toArray, .int .i64 i] L (fun v L' => v = .bool r ∧ L' = L) := by
  subst hres
  obtain ⟨bb, o, hp, hc⟩ := el_of hr hi
  subst hp
  have hl := hc i hi 2 _ rfl
  have hfa : freshA (es.map En.a) bg i = (!(es[i]).i.lo && (decide (0 < i) || !bg)) := by
    unfold freshA; rw [List.getElem?_map, List.getElem?_eq_getElem hi]; rfl
  rw [hfa]
  refine xf_enter (args := [_, _]) Try.func49 rfl Try.ntmps49 rfl ?_
  focus
    refine xc_seq ?_
    refine xc_region ?_
    refine xo_ef rfl (ef_box rfl fun r2 => ?_)
    refine xo_rd (rd_assign rfl) rfl ?_
    refine xo_nil ?_
    refine xq_seq ?_
    refine xc_seq ?_
    refine xc_region ?_
    refine xo_rd (rd_fieldAddr rfl) rfl ?_
    refine xo_rd (rd_load1 rfl (Cl.o0 rfl)) rfl ?_
    refine xo_rd (rd_move rfl) rfl ?_
    refine xo_rd (rd_indexAddr rfl rfl (by omega) (by omega)) rfl ?_
    refine xo_rd (rd_fieldAddr rfl) rfl ?_
    refine xo_rd (rd_fieldAddr rfl) rfl ?_
    refine xo_rd (rd_load1 rfl (hl.mono (by intro z hz; simp [hz]))) rfl ?_
    refine xo_rd (rd_not rfl) rfl ?_
    refine xo_rd (rd_move rfl) rfl ?_
    refine xo_split 13 rfl (fun hz1 => ?_) (fun hz1 => ?_)
    refine xo_grd rfl rfl (rd_move rfl) rfl ?_
    refine xo_grd rfl rfl (rd_eql rfl rfl) rfl ?_
    refine xo_grd rfl rfl (rd_move rfl) rfl ?_
    refine xo_dec 16 rfl (fun hz2 => ?_) (fun hz2 => ?_)
    refine xo_grd rfl rfl (rd_fieldAddr rfl) rfl ?_
    refine xo_grd rfl rfl (rd_load1 rfl (Cl.o0 rfl)) rfl ?_
    refine xo_grd rfl rfl (rd_pickt rfl rfl) rfl ?_
    refine xo_grd rfl rfl (rd_not rfl) rfl ?_
    refine xo_rd (rd_pickt rfl rfl) rfl ?_
    refine xo_rd (rd_assign rfl) rfl ?_
    refine xo_nil ?_
    refine xq_seq ?_
    refine xc_ret ?_
    rotate_left
    refine xo_gskip rfl rfl rfl rfl ?_
    refine xo_gskip rfl rfl rfl rfl ?_
    refine xo_grd rfl rfl (rd_pickf rfl rfl) rfl ?_
    refine xo_grd rfl rfl (rd_not rfl) rfl ?_
    refine xo_rd (rd_pickt rfl rfl) rfl ?_
    refine xo_rd (rd_assign rfl) rfl ?_
    refine xo_nil ?_
    refine xq_seq ?_
    refine xc_ret ?_
    rotate_left
    refine xo_gskip rfl rfl rfl rfl ?_
    refine xo_gskip rfl rfl rfl rfl ?_
    refine xo_gskip rfl rfl rfl rfl ?_
    refine xo_gskipU rfl rfl rfl ?_
    refine xo_gskipU rfl rfl rfl ?_
    refine xo_gskip rfl rfl rfl rfl ?_
    refine xo_gskip rfl rfl rfl rfl ?_
    refine xo_rd (rd_pickf rfl rfl) rfl ?_
    refine xo_rd (rd_assign rfl) rfl ?_
    refine xo_nil ?_
    refine xq_seq ?_
    refine xc_ret ?_
    rotate_left
  all_goals
    refine xq_tail (xq_ret1 (.inl rfl) Try.results49 rfl ⟨congrArg Value.bool ?_, rfl⟩)
    first
      | (have hz0 : ¬ 0 < i := by omega
         simp_all)
      | (have hz0 : 0 < i := by omega
         simp_all)
      | simp_all
theorem xf_RFrames {W : World} {L : List Blk} (b : Int) (ca bg : Bool) (es : List En) (p : Option Addr) (c : Nat) (hr : Rs W L p (es.flatMap En.enc)) (hn : es.length ≤ 1000000) :
    XF Try.prog W 26 #[.agg (qcl b ca bg p es.length c).toArray] L (fun v L' => v = .int .i64 (framesA (es.map En.a)) ∧ L' = L) := by
  refine xf_enter (args := [_]) Try.func26 rfl Try.ntmps26 rfl ?_
  focus
    refine xc_seq ?_
    refine xc_region ?_
    refine xo_ef rfl (ef_box rfl fun r1 => ?_)
    refine xo_rd (rd_assign rfl) rfl ?_
    refine xo_nil ?_
    refine xq_seq ?_
    refine xc_seq ?_
    refine xc_region ?_
    refine xo_rd (rd_assign rfl) rfl ?_
    refine xo_nil ?_
    refine xq_seq ?_
    refine xc_seq ?_
    refine xc_seq ?_
    refine xc_region ?_
    refine xo_rd (rd_assign rfl) rfl ?_
    refine xo_nil ?_
    refine xq_seq ?_
    refine xc_block ?_
  refine xc_loopK (ι := Nat) (fun i => i ≤ es.length) (fun i => es.length - i) (fun i => [(1, .pointer (some ⟨r1, 0, none⟩)), (3, .int .i64 (framesA ((es.map En.a).take i))), (4, .int .i64 i)]) 0 (Nat.zero_le _) (by repeat (first | exact keep_nil | refine keep_cons rfl ?_)) ?_
  intro i hi
  by_cases hin : i < es.length
  · obtain ⟨bb, o, hp, hc⟩ := el_of hr hin
    subst hp
    have hl := hc i hin 2 _ rfl
    have hfr := framesA_take (es.map En.a) i (by rw [List.length_map]; exact hin)
    have hfl := framesA_le ((es.map En.a).take i)
    rw [List.length_take] at hfl
    rw [List.getElem_map] at hfr
    have hlo : (es[i]).a.lo = (es[i]).i.lo := rfl
    rw [hlo] at hfr
    generalize es[i] = e at *
    focus
      refine xc_seq ?_
      refine xc_seq ?_
      refine xc_region ?_
      refine xo_rd (rd_move rfl) rfl ?_
      refine xo_rd (rd_fieldAddr rfl) rfl ?_
      refine xo_rd (rd_load1 rfl (Cl.o0 rfl)) rfl ?_
      refine xo_rd (rd_len rfl) rfl ?_
      refine xo_rd (rd_lss rfl rfl) rfl ?_
      refine xo_nil ?_
      refine xq_seq ?_
      refine xc_dec rfl (fun hz1 => ?_) (fun hz1 => (by exfalso; omega))
      refine xc_skip ?_
      refine xq_seq ?_
      refine xc_seq ?_
      refine xc_block ?_
      refine xc_seq ?_
      refine xc_region ?_
      refine xo_rd (rd_fieldAddr rfl) rfl ?_
      refine xo_rd (rd_load1 rfl (Cl.o0 rfl)) rfl ?_
      refine xo_rd (rd_move rfl) rfl ?_
      refine xo_rd (rd_indexAddr rfl rfl (by omega) (by omega)) rfl ?_
      refine xo_rd (rd_fieldAddr rfl) rfl ?_
      refine xo_rd (rd_fieldAddr rfl) rfl ?_
      refine xo_rd (rd_load1 rfl (hl.mono (by intro z hz; simp [hz]))) rfl ?_
      refine xo_rd (rd_not rfl) rfl ?_
      refine xo_nil ?_
      refine xq_seq ?_
      refine xc_cond rfl (fun hz2 => ?_) (fun hz2 => ?_)
      refine xc_region ?_
      refine xo_rd (rd_move rfl) rfl ?_
      refine xo_rd (rd_addn rfl rfl (by omega) (by omega)) rfl ?_
      refine xo_rd (rd_assign rfl) rfl ?_
      refine xo_nil ?_
      refine xq_block ?_
      refine xq_seq ?_
      refine xc_region ?_
      refine xo_rd (rd_move rfl) rfl ?_
      refine xo_rd (rd_addn rfl rfl (by omega) (by omega)) rfl ?_
      refine xo_rd (rd_assign rfl) rfl ?_
      refine xo_nil ?_
      rotate_left
      refine xc_skip ?_
      refine xq_block ?_
      refine xq_seq ?_
      refine xc_region ?_
      refine xo_rd (rd_move rfl) rfl ?_
      refine xo_rd (rd_addn rfl rfl (by omega) (by omega)) rfl ?_
      refine xo_rd (rd_assign rfl) rfl ?_
      refine xo_nil ?_
      rotate_left
    all_goals refine xq_roundK rfl (i + 1) (by omega) (by omega) (List.Sublist.refl _) (by
        rw [hfr]
        first
          | (rw [show e.i.lo = false by simpa using hz2]; exact (by repeat (first | exact keep_nil | refine keep_cons rfl ?_)))
          | (rw [show e.i.lo = true by simpa using hz2]; exact (by repeat (first | exact keep_nil | refine keep_cons rfl ?_))))
  · skip
    focus
      refine xc_seq ?_
      refine xc_seq ?_
      refine xc_region ?_
      refine xo_rd (rd_move rfl) rfl ?_
      refine xo_rd (rd_fieldAddr rfl) rfl ?_
      refine xo_rd (rd_load1 rfl (Cl.o0 rfl)) rfl ?_
      refine xo_rd (rd_len rfl) rfl ?_
      refine xo_rd (rd_lss rfl rfl) rfl ?_
      refine xo_nil ?_
      refine xq_seq ?_
      refine xc_dec rfl (fun h1 => (by exfalso; omega)) (fun h1 => ?_)
      refine xc_exit ?_
      refine xq_then_exit ?_
      refine xq_then_exit ?_
      refine xq_block_hit ?_
      refine xq_seq ?_
      refine xc_seq ?_
      refine xc_region ?_
      refine xo_rd (rd_move rfl) rfl ?_
      refine xo_rd (rd_assign rfl) rfl ?_
      refine xo_nil ?_
      refine xq_seq ?_
      refine xc_ret ?_
    refine xq_tail (xq_ret1 (.inl rfl) Try.results26 rfl ⟨?_, rfl⟩)
    rw [List.take_of_length_le (by rw [List.length_map]; omega)]
theorem xf_RHas {W : World} {L : List Blk} (b : Int) (ca bg : Bool) (es : List En) (p : Option Addr) (c : Nat) (hr : Rs W L p (es.flatMap En.enc)) (hn : es.length ≤ 1000000) (g : Int) (key : Bool) :
    XF Try.prog W 28 #[.agg (qcl b ca bg p es.length c).toArray, .int .u64 g, .bool key] L (fun v L' => v = .bool (hasB (es.map En.a) bg g key) ∧ L' = L) := by
  refine xf_enter (args := [_, _, _]) Try.func28 rfl Try.ntmps28 rfl ?_
  focus
    refine xc_seq ?_
    refine xc_region ?_
    refine xo_ef rfl (ef_box rfl fun r3 => ?_)
    refine xo_rd (rd_assign rfl) rfl ?_
    refine xo_nil ?_
    refine xq_seq ?_
    refine xc_seq ?_
    refine xc_seq ?_
    refine xc_region ?_
    refine xo_rd (rd_assign rfl) rfl ?_
    refine xo_nil ?_
    refine xq_seq ?_
    refine xc_block ?_
  refine xc_loopK (ι := Nat) (fun i => i ≤ es.length ∧ ∀ j, j < i → hasA (es.map En.a) bg g key j = false) (fun i => es.length - i) (fun i => [(1, .int .u64 g), (2, .bool key), (3, .pointer (some ⟨r3, 0, none⟩)), (7, .int .i64 i)]) 0 ⟨Nat.zero_le _, fun j h => absurd h (Nat.not_lt_zero _)⟩ (by repeat (first | exact keep_nil | refine keep_cons rfl ?_)) ?_
  rintro i ⟨hi, hno⟩
  by_cases hin : i < es.length
  · obtain ⟨bb, o, hp, hc⟩ := el_of hr hin
    subst hp
    have hl0 := hc i hin 0 _ rfl
    have hl1 := hc i hin 15 _ rfl
    obtain ⟨sf, hsf⟩ : ∃ r, freshA (es.map En.a) bg i = r := ⟨_, rfl⟩
    have hk : hasA (es.map En.a) bg g key i = (sf && (decide ((es[i]).g = g) && (!key || (es[i]).i.f.k))) := by
      unfold hasA; rw [hsf, List.getElem?_map, List.getElem?_eq_getElem hin]; rfl
    have hfw := fun L' (h : ∀ z, z ∈ L → z ∈ L') => xf_rfresh b ca bg es _ c (hr.mono h) i hin sf hsf
    generalize es[i] = e at *
    focus
      refine xc_seq ?_
      refine xc_seq ?_
      refine xc_region ?_
      refine xo_rd (rd_move rfl) rfl ?_
      refine xo_rd (rd_fieldAddr rfl) rfl ?_
      refine xo_rd (rd_load1 rfl (Cl.o0 rfl)) rfl ?_
      refine xo_rd (rd_len rfl) rfl ?_
      refine xo_rd (rd_lss rfl rfl) rfl ?_
      refine xo_nil ?_
      refine xq_seq ?_
      refine xc_dec rfl (fun hz1 => ?_) (fun hz1 => (by exfalso; omega))
      refine xc_skip ?_
      refine xq_seq ?_
      refine xc_seq ?_
      refine xc_block ?_
      refine xc_seq ?_
      refine xc_region ?_
      refine xo_rd (rd_loadA (vs := qcl b ca bg (some ⟨bb, o, none⟩) es.length c) rfl rfl (cl_sub (b := r3) (vs := qcl b ca bg (some ⟨bb, o, none⟩) es.length c) (T := 33) (fr := (0, 0)) 0 (by first | exact List.Mem.head _ | exact List.Mem.tail _ (List.Mem.head _) | exact List.Mem.tail _ (List.Mem.tail _ (List.Mem.head _)) | exact List.Mem.tail _ (List.Mem.tail _ (List.Mem.tail _ (List.Mem.head _))) | exact List.Mem.tail _ (List.Mem.tail _ (List.Mem.tail _ (List.Mem.tail _ (List.Mem.head _)))) | exact List.Mem.tail _ (List.Mem.tail _ (List.Mem.tail _ (List.Mem.tail _ (List.Mem.tail _ (List.Mem.head _))))) | exact List.Mem.tail _ (List.Mem.tail _ (List.Mem.tail _ (List.Mem.tail _ (List.Mem.tail _ (List.Mem.tail _ (List.Mem.head _)))))) | exact List.Mem.tail _ (List.Mem.tail _ (List.Mem.tail _ (List.Mem.tail _ (List.Mem.tail _ (List.Mem.tail _ (List.Mem.tail _ (List.Mem.head _)))))))) rfl)) rfl ?_
      refine xo_rd (rd_move rfl) rfl ?_
      refine xo_ef rfl (ef_call rfl (XF.mono (hfw _ (by intro z hz; simp [hz])) ?_))
      rintro v L' ⟨rfl, rfl⟩
      refine xo_rd (rd_move rfl) rfl ?_
      refine xo_split 18 rfl (fun hz2 => ?_) (fun hz2 => ?_)
      refine xo_grd rfl rfl (rd_fieldAddr rfl) rfl ?_
      refine xo_grd rfl rfl (rd_load1 rfl (Cl.o0 rfl)) rfl ?_
      refine xo_grd rfl rfl (rd_move rfl) rfl ?_
      refine xo_grd rfl rfl (rd_indexAddr rfl rfl (by omega) (by omega)) rfl ?_
      refine xo_grd rfl rfl (rd_fieldAddr rfl) rfl ?_
      refine xo_grd rfl rfl (rd_load1 rfl (hl0.mono (by intro z hz; simp [hz]))) rfl ?_
      refine xo_grd rfl rfl (rd_move rfl) rfl ?_
      refine xo_grd rfl rfl (rd_eql rfl rfl) rfl ?_
      refine xo_rd (rd_pickt rfl rfl) rfl ?_
      refine xo_rd (rd_move rfl) rfl ?_
      refine xo_dec 28 rfl (fun hz3 => ?_) (fun hz3 => ?_)
      refine xo_grd rfl rfl (rd_fieldAddr rfl) rfl ?_
      refine xo_grd rfl rfl (rd_load1 rfl (Cl.o0 rfl)) rfl ?_
      refine xo_grd rfl rfl (rd_move rfl) rfl ?_
      refine xo_grd rfl rfl (rd_indexAddr rfl rfl (by omega) (by omega)) rfl ?_
      refine xo_grd rfl rfl (rd_fieldAddr rfl) rfl ?_
      refine xo_grd rfl rfl (rd_fieldAddr rfl) rfl ?_
      refine xo_grd rfl rfl (rd_fieldAddr rfl) rfl ?_
      refine xo_grd rfl rfl (rd_load1 rfl (hl1.mono (by intro z hz; simp [hz]))) rfl ?_
      refine xo_grd rfl rfl (rd_move rfl) rfl ?_
      refine xo_split 37 rfl (fun hz4 => ?_) (fun hz4 => ?_)
      refine xo_gskip rfl rfl rfl rfl ?_
      refine xo_gskip rfl rfl rfl rfl ?_
      refine xo_grd rfl rfl (rd_pickt rfl rfl) rfl ?_
      refine xo_rd (rd_pickt rfl rfl) rfl ?_
      refine xo_nil ?_
      refine xq_seq ?_
      refine xc_condt rfl ?_
      refine xc_seq ?_
      refine xc_region ?_
      refine xo_rd (rd_assign rfl) rfl ?_
      refine xo_nil ?_
      refine xq_seq ?_
      refine xc_ret ?_
      refine xq_block_ret ?_
      refine xq_then_ret ?_
      refine xq_then_ret ?_
      refine xq_block_ret ?_
      refine xq_then_ret ?_
      rotate_left
      refine xo_grd rfl rfl (rd_move rfl) rfl ?_
      refine xo_grd rfl rfl (rd_not rfl) rfl ?_
      refine xo_grd rfl rfl (rd_pickf rfl rfl) rfl ?_
      refine xo_rd (rd_pickt rfl rfl) rfl ?_
      refine xo_nil ?_
      refine xq_seq ?_
      refine xc_cond rfl (fun hz5 => ?_) (fun hz5 => ?_)
      refine xc_seq ?_
      refine xc_region ?_
      refine xo_rd (rd_assign rfl) rfl ?_
      refine xo_nil ?_
      refine xq_seq ?_
      refine xc_ret ?_
      refine xq_block_ret ?_
      refine xq_then_ret ?_
      refine xq_then_ret ?_
      refine xq_block_ret ?_
      refine xq_then_ret ?_
      rotate_left
      refine xc_skip ?_
      refine xq_block ?_
      refine xq_seq ?_
      refine xc_region ?_
      refine xo_rd (rd_move rfl) rfl ?_
      refine xo_rd (rd_addn rfl rfl (by omega) (by omega)) rfl ?_
      refine xo_rd (rd_assign rfl) rfl ?_
      refine xo_nil ?_
      rotate_left
      refine xo_gskip rfl rfl rfl rfl ?_
      refine xo_gskip rfl rfl rfl rfl ?_
      refine xo_gskip rfl rfl rfl rfl ?_
      refine xo_gskip rfl rfl rfl rfl ?_
      refine xo_gskip rfl rfl rfl rfl ?_
      refine xo_gskip rfl rfl rfl rfl ?_
      refine xo_gskip rfl rfl rfl rfl ?_
      refine xo_gskip rfl rfl rfl rfl ?_
      refine xo_gskip rfl rfl rfl rfl ?_
      refine xo_gskipU rfl rfl rfl ?_
      refine xo_gskipU rfl rfl rfl ?_
      refine xo_gskip rfl rfl rfl rfl ?_
      refine xo_rd (rd_pickf rfl rfl) rfl ?_
      refine xo_nil ?_
      refine xq_seq ?_
      refine xc_condf rfl ?_
      refine xc_skip ?_
      refine xq_block ?_
      refine xq_seq ?_
      refine xc_region ?_
      refine xo_rd (rd_move rfl) rfl ?_
      refine xo_rd (rd_addn rfl rfl (by omega) (by omega)) rfl ?_
      refine xo_rd (rd_assign rfl) rfl ?_
      refine xo_nil ?_
      rotate_left
      refine xo_gskip rfl rfl rfl rfl ?_
      refine xo_gskip rfl rfl rfl rfl ?_
      refine xo_gskip rfl rfl rfl rfl ?_
      refine xo_gskip rfl rfl rfl rfl ?_
      refine xo_gskip rfl rfl rfl rfl ?_
      refine xo_gskip rfl rfl rfl rfl ?_
      refine xo_gskip rfl rfl rfl rfl ?_
      refine xo_gskip rfl rfl rfl rfl ?_
      refine xo_rd (rd_pickf rfl rfl) rfl ?_
      refine xo_rd (rd_move rfl) rfl ?_
      refine xo_gskip rfl rfl rfl rfl ?_
      refine xo_gskip rfl rfl rfl rfl ?_
      refine xo_gskip rfl rfl rfl rfl ?_
      refine xo_gskip rfl rfl rfl rfl ?_
      refine xo_gskip rfl rfl rfl rfl ?_
      refine xo_gskip rfl rfl rfl rfl ?_
      refine xo_gskip rfl rfl rfl rfl ?_
      refine xo_gskip rfl rfl rfl rfl ?_
      refine xo_gskip rfl rfl rfl rfl ?_
      refine xo_gskipU rfl rfl rfl ?_
      refine xo_gskipU rfl rfl rfl ?_
      refine xo_gskip rfl rfl rfl rfl ?_
      refine xo_rd (rd_pickf rfl rfl) rfl ?_
      refine xo_nil ?_
      refine xq_seq ?_
      refine xc_condf rfl ?_
      refine xc_skip ?_
      refine xq_block ?_
      refine xq_seq ?_
      refine xc_region ?_
      refine xo_rd (rd_move rfl) rfl ?_
      refine xo_rd (rd_addn rfl rfl (by omega) (by omega)) rfl ?_
      refine xo_rd (rd_assign rfl) rfl ?_
      refine xo_nil ?_
      rotate_left
    all_goals first
      | exact xq_tail (xq_ret1 (.inl rfl) Try.results28 rfl ⟨congrArg Value.bool (hasB_true (by rw [List.length_map]; exact hin) (by rw [hk]; simp_all)).symm, rfl⟩)
      | refine xq_roundK rfl (i + 1) ⟨by omega, fun j hj => ?_⟩ (by omega) (List.Sublist.refl _) (by repeat (first | exact keep_nil | refine keep_cons rfl ?_))
        rcases Nat.lt_or_ge j i with h | h
        · exact hno j h
        · have hji : j = i := by omega
          rw [hji, hk]
          simp_all
  · skip
    focus
      refine xc_seq ?_
      refine xc_seq ?_
      refine xc_region ?_
      refine xo_rd (rd_move rfl) rfl ?_
      refine xo_rd (rd_fieldAddr rfl) rfl ?_
      refine xo_rd (rd_load1 rfl (Cl.o0 rfl)) rfl ?_
      refine xo_rd (rd_len rfl) rfl ?_
      refine xo_rd (rd_lss rfl rfl) rfl ?_
      refine xo_nil ?_
      refine xq_seq ?_
      refine xc_dec rfl (fun h1 => (by exfalso; omega)) (fun h1 => ?_)
      refine xc_exit ?_
      refine xq_then_exit ?_
      refine xq_then_exit ?_
      refine xq_block_hit ?_
      refine xq_seq ?_
      refine xc_seq ?_
      refine xc_region ?_
      refine xo_rd (rd_assign rfl) rfl ?_
      refine xo_nil ?_
      refine xq_seq ?_
      refine xc_ret ?_
    refine xq_tail (xq_ret1 (.inl rfl) Try.results28 rfl ⟨congrArg Value.bool (hasB_false ?_).symm, rfl⟩)
    rw [List.length_map]; exact fun j hj => hno j (by omega)
end Go.Proofs.Ytpheiklhjelkcaa.X
/-
  Words of my own for walks, twenty-ninth part: three results, two of them structs. No condition; generic over the program.
-/
namespace Go.Proofs.Ytpheiklhjelkcaa.X
open Go Go.RowKit
set_option linter.unusedVariables false
set_option linter.unusedSimpArgs false
theorem xq_retBB {P : Program} {W : World} {n : Nat} {L : List Blk} {E : List (Nat × Value)} {K : Value → List Blk → Prop} {fn : Func} {t u s T T2 b b2 m m2 : Nat} {vs us : List Value} {y : Value} {T' T2' : TypeId} {fr fr2 : Nat × Nat} {e : Exit} [hA : Ta P T true] [hS : Ts P T m] [hA2 : Ta P T2 true] [hS2 : Ts P T2 m2] (he : e = .ret ∨ e = .normal) (hr : fn.results = #[.cell t T, .cell u T2, .tmp s]) (ht : lk E t = some (.pointer (some ⟨b, 0, none⟩)))
    (hu : lk E u = some (.pointer (some ⟨b2, 0, none⟩))) (hs : lk E s = some y) (hk : Kn W L b (.cells vs.toArray T' fr)) (hm : vs.length = m) (hk2 : Kn W L b2 (.cells us.toArray T2' fr2)) (hm2 : us.length = m2) {L' : List Blk} (hL : L'.Sublist L) (h : K (.tuple #[.agg vs.toArray, .agg us.toArray, y]) L') : XQ W n (bodyPost P fn (XP W K)) e L E :=
  xq_retg' hL he (fun a w ha hw => by
    have h1 := hA.h w
    have h2 := hS.h w
    have h3 := hA2.h w
    have h4 := hS2.h w
    subst hm; subst hm2
    have hl := run_loadCells_list (P := P) w ⟨b, 0, none⟩ vs (fun j v hj => by
      rw [add_zero', Nat.zero_add]
      exact (Cl.get (L := L) ⟨_, _, _, hk, by simpa using hj⟩ hw))
    have hl2 := run_loadCells_list (P := P) w ⟨b2, 0, none⟩ us (fun j v hj => by
      rw [add_zero', Nat.zero_add]
      exact (Cl.get (L := L) ⟨_, _, _, hk2, by simpa using hj⟩ hw))
    have hv := ha.val t _ ht
    have hv2 := ha.val u _ hu
    have hv3 := ha.val s _ hs
    simp [results, hr, Array.getD_eq_getD_getElem?, hv, hv2, hv3, asAddr, loadVar, h1, h2, h3, h4, hl, hl2]) h
end Go.Proofs.Ytpheiklhjelkcaa.X
/-
  Chapter 19: the reference begins, and shifts: walks of my own.
-/
namespace Go.Proofs.Ytpheiklhjelkcaa.X
open Go Go.RowKit
set_option linter.unusedVariables false
set_option linter.unusedSimpArgs false
theorem xf_RBegin {W : World} {L : List Blk} (b : Int) (ca bg : Bool) (es : List En) (p : Option Addr) (c : Nat) (hr : Rs W L p (es.flatMap En.enc)) :
    XF Try.prog W 13 #[.agg (qcl b ca bg p es.length c).toArray] L (fun v L' => v = .tuple #[.agg (qcl b ca (bg || freshA (es.map En.a) bg 0) p es.length c).toArray, .bool (freshA (es.map En.a) bg 0)] ∧ L' = L) := by
  obtain ⟨sf, hsf⟩ : ∃ s, freshA (es.map En.a) bg 0 = s := ⟨_, rfl⟩
  rw [hsf]
  refine xf_enter (args := [_]) Try.func13 rfl Try.ntmps13 rfl ?_
  by_cases h0 : 0 < es.length
  · skip
    focus
      refine xc_seq ?_
      refine xc_region ?_
      refine xo_ef rfl (ef_box rfl fun r1 => ?_)
      refine xo_ef rfl (ef_alloc fun r2 => ?_)
      refine xo_rd (rd_assign rfl) rfl ?_
      refine xo_nil ?_
      refine xq_seq ?_
      refine xc_seq ?_
      refine xc_seq ?_
      refine xc_region ?_
      refine xo_rd (rd_fieldAddr rfl) rfl ?_
      refine xo_rd (rd_load1 rfl (Cl.o1 rfl)) rfl ?_
      refine xo_rd (rd_len rfl) rfl ?_
      refine xo_rd (rd_eql rfl rfl) rfl ?_
      refine xo_rd (rd_move rfl) rfl ?_
      refine xo_dec 8 rfl (fun hz1 => (by exfalso; omega)) (fun hz1 => ?_)
      refine xo_grd rfl rfl (rd_loadB rfl Kn.o1 (by rfl)) rfl ?_
      refine xo_gef rfl rfl rfl (ef_call rfl (XF.mono (xf_rfresh b ca bg es p c (hr.mono (by intro z hz; simp [hz])) 0 h0 sf hsf) ?_))
      rintro v L' ⟨rfl, rfl⟩
      refine xo_grd rfl rfl (rd_not rfl) rfl ?_
      refine xo_rd (rd_pickf rfl rfl) rfl ?_
      refine xo_nil ?_
      refine xq_seq ?_
      refine xc_cond rfl (fun hz2 => ?_) (fun hz2 => ?_)
      refine xc_seq ?_
      refine xc_region ?_
      refine xo_rd (rd_loadB rfl Kn.o1 (by rfl)) rfl ?_
      refine xo_ef rfl (ef_storeB [] _ rfl rfl (by first | rfl | assumption) rfl rfl rfl ?_)
      refine xo_rd (rd_assign rfl) rfl ?_
      refine xo_nil ?_
      refine xq_seq ?_
      refine xc_ret ?_
      refine xq_then_ret ?_
      rotate_left
      refine xc_skip ?_
      refine xq_seq ?_
      refine xc_seq ?_
      refine xc_region ?_
      refine xo_rd (rd_fieldAddr rfl) rfl ?_
      refine xo_ef rfl (ef_store1 [_] _ rfl rfl (by first | rfl | assumption) rfl rfl rfl ?_)
      refine xo_nil ?_
      refine xq_seq ?_
      refine xc_seq ?_
      refine xc_region ?_
      refine xo_rd (rd_loadB rfl Kn.o1 (by rfl)) rfl ?_
      refine xo_ef rfl (ef_storeB [] _ rfl rfl (by first | rfl | assumption) rfl rfl rfl ?_)
      refine xo_rd (rd_assign rfl) rfl ?_
      refine xo_nil ?_
      refine xq_seq ?_
      refine xc_ret ?_
      rotate_left
    · have hs0 : sf = false := by simpa using hz2
      rw [hs0, Bool.or_false]
      exact xq_retB2 (.inl rfl) Try.results13 rfl rfl Kn.o0 rfl (List.sublist_append_right [_, _] _) ⟨rfl, rfl⟩
    · have hs0 : sf = true := by simpa using hz2
      rw [hs0, Bool.or_true]
      exact xq_retB2 (.inl rfl) Try.results13 rfl rfl Kn.o0 rfl (List.sublist_append_right [_, _] _) ⟨rfl, rfl⟩
  · skip
    focus
      refine xc_seq ?_
      refine xc_region ?_
      refine xo_ef rfl (ef_box rfl fun r1 => ?_)
      refine xo_ef rfl (ef_alloc fun r2 => ?_)
      refine xo_rd (rd_assign rfl) rfl ?_
      refine xo_nil ?_
      refine xq_seq ?_
      refine xc_seq ?_
      refine xc_seq ?_
      refine xc_region ?_
      refine xo_rd (rd_fieldAddr rfl) rfl ?_
      refine xo_rd (rd_load1 rfl (Cl.o1 rfl)) rfl ?_
      refine xo_rd (rd_len rfl) rfl ?_
      refine xo_rd (rd_eql rfl rfl) rfl ?_
      refine xo_rd (rd_move rfl) rfl ?_
      refine xo_dec 8 rfl (fun hz1 => ?_) (fun hz1 => (by exfalso; omega))
      refine xo_gskip rfl rfl rfl rfl ?_
      refine xo_gskip rfl rfl rfl rfl ?_
      refine xo_gskip rfl rfl rfl rfl ?_
      refine xo_rd (rd_pickt rfl rfl) rfl ?_
      refine xo_nil ?_
      refine xq_seq ?_
      refine xc_condt rfl ?_
      refine xc_seq ?_
      refine xc_region ?_
      refine xo_rd (rd_loadB rfl Kn.o1 (by rfl)) rfl ?_
      refine xo_ef rfl (ef_storeB [] _ rfl rfl (by first | rfl | assumption) rfl rfl rfl ?_)
      refine xo_rd (rd_assign rfl) rfl ?_
      refine xo_nil ?_
      refine xq_seq ?_
      refine xc_ret ?_
      refine xq_then_ret ?_
    have he : es = [] := List.eq_nil_of_length_eq_zero (by omega)
    have hs0 : sf = false := by rw [← hsf, he]; rfl
    rw [hs0, Bool.or_false]
    exact xq_retB2 (.inl rfl) Try.results13 rfl rfl Kn.o0 rfl (List.sublist_append_right [_, _] _) ⟨rfl, rfl⟩
theorem xf_RShift0 {W : World} {L : List Blk} (b : Int) (ca bg : Bool) (p : Option Addr) (c : Nat) :
    XF Try.prog W 15 #[.agg (qcl b ca bg p 0 c).toArray] L (fun v L' => v = .tuple #[.agg (qcl b ca bg p 0 c).toArray, .agg zEn.enc.toArray, .bool false] ∧ L' = L) := by
  refine xf_enter (args := [_]) Try.func15 rfl Try.ntmps15 rfl ?_
  focus
    refine xc_seq ?_
    refine xc_region ?_
    refine xo_ef rfl (ef_box rfl fun r1 => ?_)
    refine xo_ef rfl (ef_alloc fun r2 => ?_)
    refine xo_ef rfl (ef_alloc fun r3 => ?_)
    refine xo_rd (rd_assign rfl) rfl ?_
    refine xo_nil ?_
    refine xq_seq ?_
    refine xc_seq ?_
    refine xc_seq ?_
    refine xc_region ?_
    refine xo_rd (rd_fieldAddr rfl) rfl ?_
    refine xo_rd (rd_load1 rfl (Cl.o2 rfl)) rfl ?_
    refine xo_rd (rd_len rfl) rfl ?_
    refine xo_rd (rd_eql rfl rfl) rfl ?_
    refine xo_nil ?_
    refine xq_seq ?_
    refine xc_condt rfl ?_
    refine xc_seq ?_
    refine xc_region ?_
    refine xo_rd (rd_loadB rfl Kn.o2 (by rfl)) rfl ?_
    refine xo_rd (rd_cast (v' := .agg zEn.enc.toArray) (rd_build (T := 57) rfl rfl rfl) (by kernel_rfl)) rfl ?_
    refine xo_ef rfl (ef_storeB [_] _ rfl rfl (by first | rfl | assumption) rfl rfl rfl ?_)
    refine xo_ef rfl (ef_storeB [] _ rfl rfl (by first | rfl | assumption) rfl rfl rfl ?_)
    refine xo_rd (rd_assign rfl) rfl ?_
    refine xo_nil ?_
    refine xq_seq ?_
    refine xc_ret ?_
    refine xq_then_ret ?_
  exact xq_retBB (.inl rfl) Try.results15 rfl rfl rfl Kn.o1 rfl Kn.o0 rfl (List.sublist_append_right [_, _, _] _) ⟨rfl, rfl⟩
theorem xf_RShift {W : World} {L L0 : List Blk} (b : Int) (ca bg : Bool) (e : En) (es : List En) (p : Option Addr) (c : Nat) (hr : Rs W L0 p ((e :: es).flatMap En.enc)) (hL : ∀ z, z ∈ L0 → z ∈ L) (hc : es.length + 1 ≤ c) :
    XF Try.prog W 15 #[.agg (qcl b ca bg p (es.length + 1) c).toArray] L (fun v L' => ∃ p' c', v = .tuple #[.agg (qcl b ca false p' es.length c').toArray, .agg e.enc.toArray, .bool true] ∧ Rs W L0 p' (es.flatMap En.enc) ∧ es.length ≤ c' ∧ L' = L) := by
  obtain ⟨bb, o, hp, hcl⟩ := el_of hr (Nat.succ_pos _)
  subst hp
  have h0 := hcl 0 (Nat.succ_pos _)
  have h0' : ∀ L', (∀ z, z ∈ L → z ∈ L') → ∀ (j : Nat) (u : Value), e.enc[j]? = some u → Cl W L' bb (o + (0 : Int).toNat * 17 + j) u := fun L' h j u hj => ((h0 j u hj).mono hL).mono h
  have htl : Rs W L0 (slp (some ⟨bb, o, none⟩) c 1 17) (es.flatMap En.enc) := by
    unfold slp
    split
    · have : es = [] := List.eq_nil_of_length_eq_zero (by omega)
      rw [this]; exact Rs.nil
    · rw [Option.map_some, add_zero']
      have := hr.drop 17
      rw [List.flatMap_cons, List.drop_left' (En.len e)] at this
      exact this
  refine xf_enter (args := [_]) Try.func15 rfl Try.ntmps15 rfl ?_
  focus
    refine xc_seq ?_
    refine xc_region ?_
    refine xo_ef rfl (ef_box rfl fun r1 => ?_)
    refine xo_ef rfl (ef_alloc fun r2 => ?_)
    refine xo_ef rfl (ef_alloc fun r3 => ?_)
    refine xo_rd (rd_assign rfl) rfl ?_
    refine xo_nil ?_
    refine xq_seq ?_
    refine xc_seq ?_
    refine xc_seq ?_
    refine xc_region ?_
    refine xo_rd (rd_fieldAddr rfl) rfl ?_
    refine xo_rd (rd_load1 rfl (Cl.o2 rfl)) rfl ?_
    refine xo_rd (rd_len rfl) rfl ?_
    refine xo_rd (rd_eql rfl rfl) rfl ?_
    refine xo_nil ?_
    refine xq_seq ?_
    refine xc_condf rfl ?_
    refine xc_skip ?_
    refine xq_seq ?_
    refine xc_seq ?_
    refine xc_region ?_
    refine xo_rd (rd_fieldAddr rfl) rfl ?_
    refine xo_rd (rd_load1 rfl (Cl.o2 rfl)) rfl ?_
    refine xo_rd (rd_indexAddr rfl rfl (by omega) (by omega)) rfl ?_
    refine xo_rd (rd_loadA (vs := e.enc) rfl rfl (h0' _ (by intro z hz; simp [hz]))) rfl ?_
    refine xo_ef rfl (ef_alloc fun r5 => ?_)
    refine xo_ef rfl (ef_storeB [] _ rfl rfl (by first | rfl | assumption) rfl rfl rfl ?_)
    refine xo_nil ?_
    refine xq_seq ?_
    refine xc_seq ?_
    refine xc_region ?_
    refine xo_rd (rd_fieldAddr rfl) rfl ?_
    refine xo_rd (rd_load1 rfl (Cl.o3 rfl)) rfl ?_
    refine xo_rd (rd_cast (v' := .slice (slp (some ⟨bb, o, none⟩) c 1 17) es.length (c - 1)) (rd_slLo rfl rfl (by decide) (by show (1 : Int) ≤ ((es.length + 1 : Nat) : Int); omega)) rfl) rfl ?_
    refine xo_rd (rd_fieldAddr rfl) rfl ?_
    refine xo_ef rfl (ef_store1 [_, _, _] _ rfl rfl (by first | rfl | assumption) rfl rfl rfl ?_)
    refine xo_nil ?_
    refine xq_seq ?_
    refine xc_seq ?_
    refine xc_region ?_
    refine xo_rd (rd_fieldAddr rfl) rfl ?_
    refine xo_ef rfl (ef_store1 [_, _, _] _ rfl rfl (by first | rfl | assumption) rfl rfl rfl ?_)
    refine xo_nil ?_
    refine xq_seq ?_
    refine xc_seq ?_
    refine xc_drawM [0, 0, 1, 7, 15] [0, 0, 1, 7, 15] [] (by kernel_rfl) (by kernel_rfl) (by kernel_rfl) ?_
    refine xm_two 0 1 (mi := 1) (mk := 2) rfl rfl (by kernel_rfl) rfl rfl (by kernel_rfl) (by kernel_rfl) (ef_rd (rd_loadB rfl Kn.o3 (by rfl)) ⟨(by first | exact Sb.refl | exact Sb.nil | (repeat (first | exact Sb.nil | exact Sb.refl | exact Sb.app0 | apply Sb.keep | apply Sb.keepApp | apply Sb.cons | apply Sb.app))), ?_⟩) (ef_rd (rd_loadB rfl Kn.o0 (by rfl)) ⟨(by first | exact Sb.refl | exact Sb.nil | (repeat (first | exact Sb.nil | exact Sb.refl | exact Sb.app0 | apply Sb.keep | apply Sb.keepApp | apply Sb.cons | apply Sb.app))), ?_⟩)
    refine xm_two 1 2 (mi := 3) (mk := 5) rfl rfl (by kernel_rfl) rfl rfl (by kernel_rfl) (by kernel_rfl) (ef_rd (rd_loadB rfl Kn.o0 (by rfl)) ⟨(by first | exact Sb.refl | exact Sb.nil | (repeat (first | exact Sb.nil | exact Sb.refl | exact Sb.app0 | apply Sb.keep | apply Sb.keepApp | apply Sb.cons | apply Sb.app))), ?_⟩) (ef_storeB [_, _] _ rfl rfl (by first | rfl | assumption) rfl rfl rfl ⟨(by first | exact Sb.refl | exact Sb.nil | (repeat (first | exact Sb.nil | exact Sb.refl | exact Sb.app0 | apply Sb.keep | apply Sb.keepApp | apply Sb.cons | apply Sb.app))), ?_⟩)
    refine xm_one 2 (m' := 7) rfl (by kernel_rfl) rfl (by kernel_rfl) (ef_storeB [_, _] _ rfl rfl (by first | rfl | assumption) rfl rfl rfl ?_)
    refine ⟨(by first | exact Sb.refl | exact Sb.nil | (repeat (first | exact Sb.nil | exact Sb.refl | exact Sb.app0 | apply Sb.keep | apply Sb.keepApp | apply Sb.cons | apply Sb.app))), ?_⟩
    refine xm_one 3 (m' := 15) rfl (by kernel_rfl) rfl (by kernel_rfl) (ef_storeB [_] _ rfl rfl (by first | rfl | assumption) rfl rfl rfl ?_)
    refine ⟨(by first | exact Sb.refl | exact Sb.nil | (repeat (first | exact Sb.nil | exact Sb.refl | exact Sb.app0 | apply Sb.keep | apply Sb.keepApp | apply Sb.cons | apply Sb.app))), ?_⟩
    refine xm_take 4 (m' := 31) rfl (by kernel_rfl) (by first | exact Sb.refl | exact Sb.nil | (repeat (first | exact Sb.nil | exact Sb.refl | exact Sb.app0 | apply Sb.keep | apply Sb.keepApp | apply Sb.cons | apply Sb.app))) (rd_assign rfl) rfl (by kernel_rfl) ?_
    refine xm_done (by kernel_rfl) ?_
    refine xq_seq ?_
    refine xc_ret ?_
    rotate_left
    refine xm_one 1 (m' := 7) rfl (by kernel_rfl) rfl (by kernel_rfl) (ef_rd (rd_loadB rfl Kn.o0 (by rfl)) ?_)
    refine ⟨(by first | exact Sb.refl | exact Sb.nil | (repeat (first | exact Sb.nil | exact Sb.refl | exact Sb.app0 | apply Sb.keep | apply Sb.keepApp | apply Sb.cons | apply Sb.app))), ?_⟩
    refine xm_one 3 (m' := 15) rfl (by kernel_rfl) rfl (by kernel_rfl) (ef_storeB [_] _ rfl rfl (by first | rfl | assumption) rfl rfl rfl ?_)
    refine ⟨(by first | exact Sb.refl | exact Sb.nil | (repeat (first | exact Sb.nil | exact Sb.refl | exact Sb.app0 | apply Sb.keep | apply Sb.keepApp | apply Sb.cons | apply Sb.app))), ?_⟩
    refine xm_take 4 (m' := 31) rfl (by kernel_rfl) (by first | exact Sb.refl | exact Sb.nil | (repeat (first | exact Sb.nil | exact Sb.refl | exact Sb.app0 | apply Sb.keep | apply Sb.keepApp | apply Sb.cons | apply Sb.app))) (rd_assign rfl) rfl (by kernel_rfl) ?_
    refine xm_done (by kernel_rfl) ?_
    refine xq_seq ?_
    refine xc_ret ?_
    rotate_left
    refine xm_one 0 (m' := 3) rfl (by kernel_rfl) rfl (by kernel_rfl) (ef_rd (rd_loadB rfl Kn.o3 (by rfl)) ?_)
    refine ⟨(by first | exact Sb.refl | exact Sb.nil | (repeat (first | exact Sb.nil | exact Sb.refl | exact Sb.app0 | apply Sb.keep | apply Sb.keepApp | apply Sb.cons | apply Sb.app))), ?_⟩
    refine xm_one 2 (m' := 7) rfl (by kernel_rfl) rfl (by kernel_rfl) (ef_storeB [_, _] _ rfl rfl (by first | rfl | assumption) rfl rfl rfl ?_)
    refine ⟨(by first | exact Sb.refl | exact Sb.nil | (repeat (first | exact Sb.nil | exact Sb.refl | exact Sb.app0 | apply Sb.keep | apply Sb.keepApp | apply Sb.cons | apply Sb.app))), ?_⟩
    refine xm_one 3 (m' := 15) rfl (by kernel_rfl) rfl (by kernel_rfl) (ef_storeB [_] _ rfl rfl (by first | rfl | assumption) rfl rfl rfl ?_)
    refine ⟨(by first | exact Sb.refl | exact Sb.nil | (repeat (first | exact Sb.nil | exact Sb.refl | exact Sb.app0 | apply Sb.keep | apply Sb.keepApp | apply Sb.cons | apply Sb.app))), ?_⟩
    refine xm_take 4 (m' := 31) rfl (by kernel_rfl) (by first | exact Sb.refl | exact Sb.nil | (repeat (first | exact Sb.nil | exact Sb.refl | exact Sb.app0 | apply Sb.keep | apply Sb.keepApp | apply Sb.cons | apply Sb.app))) (rd_assign rfl) rfl (by kernel_rfl) ?_
    refine xm_done (by kernel_rfl) ?_
    refine xq_seq ?_
    refine xc_ret ?_
    rotate_left
  all_goals exact xq_retBB (vs := qcl b ca false (slp (some ⟨bb, o, none⟩) c 1 17) es.length (c - 1)) (.inl rfl) Try.results15 rfl rfl rfl Kn.o2 rfl Kn.o1 rfl (List.sublist_append_right [_, _, _, _] _) ⟨slp (some ⟨bb, o, none⟩) c 1 17, c - 1, rfl, htl, by omega, rfl⟩
end Go.Proofs.Ytpheiklhjelkcaa.X
