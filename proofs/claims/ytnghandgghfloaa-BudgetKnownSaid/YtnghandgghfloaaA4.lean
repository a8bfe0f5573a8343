/-
  Plans in new memory: walks of my own.
-/
import Derived.Test.YtnghandgghfloaaA3
namespace Go.Proofs.Ytnghandgghfloaa.X
open Go Go.RowKit
set_option linter.unusedVariables false
set_option linter.unusedSimpArgs false
theorem ef_append0 {P : Program} {W : World} {n : Nat} {L : List Blk} {E : List (Nat × Value)} {K : Value → List Blk → Prop} {d : Option Nat} {t : TypeId} {pos : String} {after : Array Edge} {g : Option (Nat × Bool)} (A R : List Blk) {T e s bt : Nat} {z : Value} {x y : Operand} {k c : Nat} {p : Option Addr} {news : List Value} [hT : Sl P T e] [hI : Inf P e z s bt]
    (hx : ev E x = some (.slice none 0 0)) (hy : ev E y = some (.slice p k c)) (hL : L = A ++ R) (hsrc : Rs W L p news) (hk : news.length = k * s) (h1a : news.all (·.oneCell') = true) (hs : 0 < s)
    (hfit : k * bt ≤ 140737488355328) (hsm : k ≤ 9223372036854775807) (hK : ∀ q c' l', SlO s e (.slice q k c') k news l' → k ≤ c' → K (.slice q k c') (A ++ (l' ++ R))) :
    EF P W n L E ⟨d, .call ⟨.builtin .append, #[x, y], #[T, T]⟩, t, pos, after, g⟩ K :=
  ef_appendS A R [] hx hy SlO.nil hL hsrc hk h1a hs (by rw [Nat.zero_add]; exact hfit) (by rw [Nat.zero_add]; exact hsm) fun q c' l' h hc => by
    rw [Nat.zero_add] at h hc ⊢
    exact hK q c' l' h hc
/-- The first so many of cameras are on. -/
def fl (m : Nat) (k : Int) : List Bool := (List.range m).map fun i : Nat => decide ((i : Int) < k)
theorem fl_len (m : Nat) (k : Int) : (fl m k).length = m := by simp [fl]
theorem fl_succ (m : Nat) (k : Int) : fl (m + 1) k = fl m k ++ [decide ((m : Int) < k)] := by simp [fl, List.range_succ]
theorem xf_first {W : World} {L : List Blk} (p q : Option Addr) (n c m d : Nat) (top on : Int) (hm : m ≤ 1000) : XF Try.prog W 27 #[.agg #[.slice p n c, .slice q m d], .int .i64 top, .int .i64 on] L (fun v L' => ∃ s k l, v = .agg #[.int .i64 top, .slice s m k] ∧ SlO 1 4 (.slice s m k) m (bls (fl m on)) l ∧ L' = l ++ L) := by
  refine xf_enter (args := [_, _, _]) Try.func27 rfl Try.ntmps27 rfl ?_
  focus
    refine xc_seq ?_
    refine xc_region ?_
    refine xo_ef rfl (ef_box rfl fun r3 => ?_)
    refine xo_ef rfl (ef_alloc fun r6 => ?_)
    refine xo_nil ?_
    refine xq_seq ?_
    refine xc_seq ?_
    refine xc_region ?_
    refine xo_rd (rd_assign rfl) rfl ?_
    refine xo_nil ?_
    refine xq_seq ?_
    refine xc_seq ?_
    refine xc_seq ?_
    refine xc_region ?_
    refine xo_rd (rd_assign rfl) rfl ?_
    refine xo_nil ?_
    refine xq_seq ?_
    refine xc_block ?_
  refine xc_loopI (ι := Nat × Value × List Blk) (fun s => s.1 ≤ m ∧ SlO 1 4 s.2.1 s.1 (bls (fl s.1 on)) s.2.2) (fun s => m - s.1) (fun s => (r6, .cells #[.int .i64 0, .slice none 0 0] 32 (0, 0)) :: (r3, .cells #[.slice p n c, .slice q m d] 28 (0, 0)) :: (s.2.2 ++ L)) (fun s => [(1, .int .i64 top), (2, .int .i64 on), (3, .pointer (some ⟨r3, 0, none⟩)), (6, .pointer (some ⟨r6, 0, none⟩)), (7, s.2.1), (8, .int .i64 s.1)]) (0, .slice none 0 0, []) ⟨Nat.zero_le _, SlO.nil⟩ rfl (by repeat (first | exact keep_nil | refine keep_cons rfl ?_)) ?_
  rintro ⟨i, v, lo⟩ ⟨hi, hO⟩
  dsimp only at hi hO ⊢
  focus
    refine xc_seq ?_
    refine xc_seq ?_
    refine xc_region ?_
    refine xo_rd (rd_move rfl) rfl ?_
    refine xo_rd (rd_fieldAddr rfl) rfl ?_
    refine xo_rd (rd_load1 rfl (Cl.o1 rfl)) rfl ?_
    refine xo_rd (rd_len rfl) rfl ?_
    refine xo_rd (rd_lss rfl rfl) rfl ?_
    refine xo_nil ?_
    refine xq_seq ?_
    refine xc_dec rfl (fun hi1 => ?_) (fun hi1 => ?_)
    refine xc_skip ?_
    refine xq_seq ?_
    refine xc_seq ?_
    refine xc_block ?_
    refine xc_region ?_
    refine xo_rd (rd_move rfl) rfl ?_
    refine xo_rd (rd_move rfl) rfl ?_
    refine xo_rd (rd_move rfl) rfl ?_
    refine xo_rd (rd_lss rfl rfl) rfl ?_
    refine xo_ef rfl (ef_slice1 rfl rfl rfl fun r20 => ?_)
    rotate_left
    refine xc_exit ?_
    refine xq_then_exit ?_
    refine xq_then_exit ?_
    refine xq_block_hit ?_
    refine xq_seq ?_
    refine xc_seq ?_
    refine xc_region ?_
    refine xo_rd (rd_move rfl) rfl ?_
    refine xo_rd (rd_move rfl) rfl ?_
    rotate_left
  · refine xo_ef rfl (ef_append [_, _, _] _ lo rfl rfl hO rfl (Rs.fresh (List.Mem.head _)) rfl rfl (by decide) (by omega) (by omega) fun v' lo' hO' => ?_)
    refine xo_tail ?_
    focus
      refine xo_rd (rd_assign rfl) rfl ?_
      refine xo_nil ?_
      refine xq_block ?_
      refine xq_seq ?_
      refine xc_region ?_
      refine xo_rd (rd_move rfl) rfl ?_
      refine xo_rd (rd_addn rfl rfl (by omega) (by omega)) rfl ?_
      refine xo_rd (rd_assign rfl) rfl ?_
      refine xo_nil ?_
    exact xq_roundI (i + 1, v', lo') ⟨by dsimp only; omega, by dsimp only; rw [fl_succ, bls_app]; exact hO'⟩ (by dsimp only; omega) rfl (by repeat (first | exact keep_nil | refine keep_cons rfl ?_))
  · have him : i = m := by omega
    subst him
    obtain ⟨s, k, rfl, hO, _⟩ := hO.opn
    focus
      refine xo_rd (rd_build rfl rfl rfl) rfl ?_
      refine xo_ef rfl (ef_storeB [] _ rfl rfl (by first | rfl | assumption) rfl rfl rfl ?_)
      refine xo_nil ?_
      refine xq_seq ?_
      refine xc_ret ?_
    exact xq_retB (.inl rfl) Try.results27 rfl Kn.o0 rfl ((List.sublist_cons_self _ _).trans (List.sublist_cons_self _ _)) ⟨s, k, lo, rfl, hO, rfl⟩
theorem xf_plan {W : World} {L : List Blk} (ca : Int) (p : Option Addr) (n c : Nat) (a : List Bool) (hn : a.length = n) (hr : Rs W L p (bls a)) (hb : n ≤ 1000) : XF Try.prog W 13 #[.agg #[.int .i64 ca, .slice p n c]] L (fun v L' => ∃ s k l, v = .agg #[.int .i64 ca, .slice s n k] ∧ SlO 1 4 (.slice s n k) n (bls a) l ∧ L' = l ++ L) := by
  refine xf_enter (args := [_]) Try.func13 rfl Try.ntmps13 rfl ?_
  focus
    refine xc_seq ?_
    refine xc_region ?_
    refine xo_ef rfl (ef_box rfl fun r1 => ?_)
    refine xo_ef rfl (ef_alloc fun r2 => ?_)
    refine xo_nil ?_
    refine xq_seq ?_
    refine xc_seq ?_
    refine xc_region ?_
    refine xo_rd (rd_assign rfl) rfl ?_
    refine xo_nil ?_
    refine xq_seq ?_
    refine xc_seq ?_
    refine xc_drawM [0, 1, 0, 0, 8, 20, 34, 127] [0, 1, 0, 0, 8, 20, 34, 127] [(r1, .cells #[.int .i64 ca, .slice p n c] 36 (0, 0))] (by kernel_rfl) (by kernel_rfl) (by kernel_rfl) ?_
    refine xm_take 0 (m' := 1) rfl (by kernel_rfl) (by first | exact Sb.refl | exact Sb.nil | (repeat (first | exact Sb.nil | exact Sb.refl | exact Sb.app0 | apply Sb.keep | apply Sb.keepApp | apply Sb.cons | apply Sb.app))) (rd_fieldAddr rfl) rfl (by kernel_rfl) ?_
    refine xm_take 1 (m' := 3) rfl (by kernel_rfl) (by first | exact Sb.refl | exact Sb.nil | (repeat (first | exact Sb.nil | exact Sb.refl | exact Sb.app0 | apply Sb.keep | apply Sb.keepApp | apply Sb.cons | apply Sb.app))) (rd_load1 rfl (Cl.o0 rfl)) rfl (by kernel_rfl) ?_
    refine xm_take 2 (m' := 7) rfl (by kernel_rfl) (by first | exact Sb.refl | exact Sb.nil | (repeat (first | exact Sb.nil | exact Sb.refl | exact Sb.app0 | apply Sb.keep | apply Sb.keepApp | apply Sb.cons | apply Sb.app))) (rd_move rfl) rfl (by kernel_rfl) ?_
    refine xm_take 3 (m' := 15) rfl (by kernel_rfl) (by first | exact Sb.refl | exact Sb.nil | (repeat (first | exact Sb.nil | exact Sb.refl | exact Sb.app0 | apply Sb.keep | apply Sb.keepApp | apply Sb.cons | apply Sb.app))) (rd_fieldAddr rfl) rfl (by kernel_rfl) ?_
    refine xm_take 4 (m' := 31) rfl (by kernel_rfl) (by first | exact Sb.refl | exact Sb.nil | (repeat (first | exact Sb.nil | exact Sb.refl | exact Sb.app0 | apply Sb.keep | apply Sb.keepApp | apply Sb.cons | apply Sb.app))) (rd_load1 rfl (Cl.o0 rfl)) rfl (by kernel_rfl) ?_
    refine xm_one 5 (m' := 63) rfl (by kernel_rfl) rfl (by kernel_rfl) (ef_append0 [_, _] L rfl rfl rfl (hr.skip.skip) (by rw [bls_len]; omega) (bls_one _) (by decide) (by omega) (by omega) fun q k lo hO hk => ?_)
    refine ⟨(by first | exact Sb.refl | exact Sb.nil | (repeat (first | exact Sb.nil | exact Sb.refl | exact Sb.app0 | apply Sb.keep | apply Sb.keepApp | apply Sb.cons | apply Sb.app))), ?_⟩
    refine xm_take 6 (m' := 127) rfl (by kernel_rfl) (by first | exact Sb.refl | exact Sb.nil | (repeat (first | exact Sb.nil | exact Sb.refl | exact Sb.app0 | apply Sb.keep | apply Sb.keepApp | apply Sb.cons | apply Sb.app))) (rd_build rfl rfl rfl) rfl (by kernel_rfl) ?_
    refine xm_one 7 (m' := 255) rfl (by kernel_rfl) rfl (by kernel_rfl) (ef_storeB [] _ rfl rfl (by first | rfl | assumption) rfl rfl rfl ?_)
    refine ⟨(by first | exact Sb.refl | exact Sb.nil | (repeat (first | exact Sb.nil | exact Sb.refl | exact Sb.app0 | apply Sb.keep | apply Sb.keepApp | apply Sb.cons | apply Sb.app))), ?_⟩
    refine xm_done (by kernel_rfl) ?_
    refine xq_seq ?_
    refine xc_ret ?_
  exact xq_retB (.inl rfl) Try.results13 rfl Kn.o0 rfl ((List.sublist_cons_self _ _).trans (List.sublist_cons_self _ _)) ⟨q, k, lo, rfl, hO, rfl⟩
theorem xf_costs {W : World} {L : List Blk} (p q : Option Addr) (n c m d : Nat) (ct cm : List Int) (hn : ct.length = n) (hm : cm.length = m) (hr : Rs W L p (ints .u64 ct)) (hq : Rs W L q (ints .u64 cm)) (hb : n ≤ 1000) (hb2 : m ≤ 1000) : XF Try.prog W 9 #[.agg #[.slice p n c, .slice q m d]] L (fun v L' => ∃ p' q' c' d' l1 l2, v = .agg #[.slice p' n c', .slice q' m d'] ∧ SlO 1 22 (.slice p' n c') n (ints .u64 ct) l1 ∧ SlO 1 22 (.slice q' m d') m (ints .u64 cm) l2 ∧ L' = l2 ++ (l1 ++ L)) := by
  refine xf_enter (args := [_]) Try.func9 rfl Try.ntmps9 rfl ?_
  focus
    refine xc_seq ?_
    refine xc_region ?_
    refine xo_ef rfl (ef_box rfl fun r1 => ?_)
    refine xo_ef rfl (ef_alloc fun r2 => ?_)
    refine xo_nil ?_
    refine xq_seq ?_
    refine xc_seq ?_
    refine xc_region ?_
    refine xo_ef rfl (ef_alloc fun r3 => ?_)
    refine xo_nil ?_
    refine xq_seq ?_
    refine xc_seq ?_
    refine xc_region ?_
    refine xo_rd (rd_fieldAddr rfl) rfl ?_
    refine xo_rd (rd_load1 rfl (Cl.o0 rfl)) rfl ?_
    refine xo_rd (rd_fieldAddr rfl) rfl ?_
    refine xo_rd (rd_load1 rfl (Cl.o2 rfl)) rfl ?_
  refine xo_ef rfl (ef_append0 [_, _, _] L rfl rfl rfl (hr.skip.skip.skip) (by rw [ints_len]; omega) (ints_one _ _) (by decide) (by omega) (by omega) fun p' c' l1 hO1 hc1 => ?_)
  focus
    refine xo_rd (rd_fieldAddr rfl) rfl ?_
    refine xo_ef rfl (ef_store1 [] _ rfl rfl (by first | rfl | assumption) rfl rfl rfl ?_)
    refine xo_nil ?_
    refine xq_seq ?_
    refine xc_seq ?_
    refine xc_region ?_
    refine xo_rd (rd_fieldAddr rfl) rfl ?_
    refine xo_rd (rd_load1 rfl (Cl.o0 rfl)) rfl ?_
    refine xo_rd (rd_fieldAddr rfl) rfl ?_
    refine xo_rd (rd_load1 rfl (Cl.o2 rfl)) rfl ?_
  refine xo_ef rfl (ef_append0 [_, _, _] (l1 ++ L) rfl rfl rfl (hq.app.skip.skip.skip) (by rw [ints_len]; omega) (ints_one _ _) (by decide) (by omega) (by omega) fun q' d' l2 hO2 hc2 => ?_)
  focus
    refine xo_rd (rd_fieldAddr rfl) rfl ?_
    refine xo_ef rfl (ef_store1 [] _ rfl rfl (by first | rfl | assumption) rfl rfl rfl ?_)
    refine xo_nil ?_
    refine xq_seq ?_
    refine xc_seq ?_
    refine xc_region ?_
    refine xo_rd (rd_loadB rfl Kn.o0 (by rfl)) rfl ?_
    refine xo_ef rfl (ef_storeB [_] _ rfl rfl (by first | rfl | assumption) rfl rfl rfl ?_)
    refine xo_nil ?_
    refine xq_seq ?_
    refine xc_ret ?_
  exact xq_retB (.inl rfl) Try.results9 rfl (.inr (List.Mem.tail _ (List.Mem.head _))) rfl (List.sublist_append_right [_, _, _] _) ⟨p', q', c', d', l1, l2, rfl, hO1, hO2, rfl⟩
theorem xf_plan31 {W : World} {L : List Blk} (p q : Option Addr) (n c m d : Nat) (top on : Int) (hm : m ≤ 1000) : XF Try.prog W 31 #[.agg #[.slice p n c, .slice q m d], .int .i64 top, .int .i64 on] L (fun v L' => ∃ s k l, v = .agg #[.int .i64 top, .slice s m k] ∧ SlO 1 4 (.slice s m k) m (bls (fl m on)) l ∧ L' = l ++ L) := by
  refine xf_enter (args := [_, _, _]) Try.func31 rfl Try.ntmps31 rfl ?_
  focus
    refine xc_seq ?_
    refine xc_region ?_
    refine xo_ef rfl (ef_box rfl fun r3 => ?_)
    refine xo_ef rfl (ef_alloc fun r6 => ?_)
    refine xo_nil ?_
    refine xq_seq ?_
    refine xc_seq ?_
    refine xc_region ?_
    refine xo_rd (rd_move rfl) rfl ?_
    refine xo_rd (rd_build rfl rfl rfl) rfl ?_
    refine xo_ef rfl (ef_alloc fun r7 => ?_)
    refine xo_ef rfl (ef_storeB [] _ rfl rfl (by first | rfl | assumption) rfl rfl rfl ?_)
    refine xo_nil ?_
    refine xq_seq ?_
    refine xc_seq ?_
    refine xc_seq ?_
    refine xc_region ?_
    refine xo_rd (rd_fieldAddr rfl) rfl ?_
    refine xo_rd (rd_load1 rfl (Cl.o2 rfl)) rfl ?_
    refine xo_rd (rd_len rfl) rfl ?_
    refine xo_rd (rd_move rfl) rfl ?_
    refine xo_nil ?_
    refine xq_seq ?_
    refine xc_block ?_
  refine xc_loopI (ι := Nat × Value × List Blk) (fun s => s.1 ≤ m ∧ SlO 1 4 s.2.1 s.1 (bls (fl s.1 on)) s.2.2) (fun s => m - s.1) (fun s => (r7, .cells #[.int .i64 top, s.2.1] 36 (0, 0)) :: (r6, .cells #[.int .i64 0, .slice none 0 0] 36 (0, 0)) :: (r3, .cells #[.slice p n c, .slice q m d] 25 (0, 0)) :: (s.2.2 ++ L)) (fun s => [(2, .int .i64 on), (3, .pointer (some ⟨r3, 0, none⟩)), (6, .pointer (some ⟨r6, 0, none⟩)), (7, .pointer (some ⟨r7, 0, none⟩)), (13, .int .i64 m), (14, .int .i64 s.1)]) (0, .slice none 0 0, []) ⟨Nat.zero_le _, SlO.nil⟩ rfl (by repeat (first | exact keep_nil | refine keep_cons rfl ?_)) ?_
  rintro ⟨i, v, lo⟩ ⟨hi, hO⟩
  dsimp only at hi hO ⊢
  focus
    refine xc_seq ?_
    refine xc_region ?_
    refine xo_rd (rd_lss rfl rfl) rfl ?_
    refine xo_nil ?_
    refine xq_seq ?_
    refine xc_seq ?_
    refine xc_dec rfl (fun hi1 => ?_) (fun hi1 => ?_)
    refine xc_skip ?_
    refine xq_seq ?_
    refine xc_seq ?_
    refine xc_block ?_
    refine xc_seq ?_
    refine xc_region ?_
    refine xo_rd (rd_move rfl) rfl ?_
    refine xo_rd (rd_assign rfl) rfl ?_
    refine xo_nil ?_
    refine xq_seq ?_
    refine xc_region ?_
    refine xo_rd (rd_fieldAddr rfl) rfl ?_
    refine xo_rd (rd_load1 rfl (Cl.o0 rfl)) rfl ?_
    refine xo_rd (rd_move rfl) rfl ?_
    refine xo_rd (rd_move rfl) rfl ?_
    refine xo_rd (rd_lss rfl rfl) rfl ?_
    refine xo_ef rfl (ef_slice1 rfl rfl rfl fun r22 => ?_)
    rotate_left
    refine xc_exit ?_
    refine xq_then_exit ?_
    refine xq_then_exit ?_
    refine xq_block_hit ?_
    refine xq_seq ?_
    refine xc_seq ?_
    refine xc_region ?_
    refine xo_rd (rd_loadB rfl Kn.o0 (by rfl)) rfl ?_
    rotate_left
  · refine xo_ef rfl (ef_appendS [_, _, _, _] _ lo rfl rfl hO rfl (Rs.fresh (List.Mem.head _)) rfl rfl (by decide) (by omega) (by omega) fun q' c' lo' hO' hc' => ?_)
    refine xo_tail ?_
    focus
      refine xo_rd (rd_fieldAddr rfl) rfl ?_
      refine xo_ef rfl (ef_store1 [] _ rfl rfl (by first | rfl | assumption) rfl rfl rfl ?_)
      refine xo_nil ?_
      refine xq_block ?_
      refine xq_seq ?_
      refine xc_region ?_
      refine xo_rd (rd_addn rfl rfl (by omega) (by omega)) rfl ?_
      refine xo_rd (rd_move rfl) rfl ?_
      refine xo_nil ?_
    exact xq_roundI (i + 1, .slice q' (i + 1) c', lo') ⟨by dsimp only; omega, by dsimp only; rw [fl_succ, bls_app]; exact hO'⟩ (by dsimp only; omega) rfl (by repeat (first | exact keep_nil | refine keep_cons rfl ?_))
  · have him : i = m := by omega
    subst him
    obtain ⟨s, k, rfl, hO, _⟩ := hO.opn
    focus
      refine xo_ef rfl (ef_storeB [_] _ rfl rfl (by first | rfl | assumption) rfl rfl rfl ?_)
      refine xo_nil ?_
      refine xq_seq ?_
      refine xc_ret ?_
    exact xq_retB (.inl rfl) Try.results31 rfl (.inr (List.Mem.tail _ (List.Mem.head _))) rfl (List.sublist_append_right [_, _, _] _) ⟨s, k, lo, rfl, hO, rfl⟩
end Go.Proofs.Ytnghandgghfloaa.X
