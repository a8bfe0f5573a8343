/-
  What comes in is copied as the reference has it, and compared: walks of my own.
-/
import Derived.Test.YtohlaabclifbfaaE3
import Derived.Laws.StructEq
namespace Go.Proofs.Ytohlaabclifbfaa.X
open Go Go.RowKit
set_option linter.unusedVariables false
set_option linter.unusedSimpArgs false
theorem eqs132 (x y : Bk) (w : World) : (Op.equalIn 10000 132 (.agg x.enc.toArray) (.agg y.enc.toArray)).run Try.prog w = .ok (decide (x = y)) w := by
  have hS : Try.prog.underlying 132 = some (.struct (Try.prog.fieldsOf 132)) := by kernel_rfl
  have hp : Try.prog.stoodInHeld 132 = false := by kernel_rfl
  rw [show (10000 : Nat) = 9999 + 1 from rfl, run_equalIn_agg w 9999 132 _ _ hS hp]
  simp only [Program.fieldsOf, Try.underlying132, Bk.enc]
  go_simp
  by_cases h : x = y
  · subst h; simp
  · have hf : x.ss = y.ss → x.lo = y.lo → x.to = y.to → x.hi = y.hi → x.ji = y.ji → x.ls = y.ls → x.dl ≠ y.dl := fun h0 h1 h2 h3 h4 h5 h6 => h (by cases x; cases y; simp_all)
    rw [decide_eq_false h]
    (repeat' split) <;> first | rfl | (exfalso; apply hf <;> assumption)
theorem neS132 (x y : Bk) (o1 o2 : Operand) (w : World) : ((do eqGuard .neq 132 o1 o2 (.agg x.enc.toArray) (.agg y.enc.toArray); binOp .neq 132 (.agg x.enc.toArray) (.agg y.enc.toArray)) : Sem Value).run Try.prog w = .ok (.bool (!decide (x = y))) w := by
  rw [Sem.run_bind, run_eqGuard_agg _ _ _ _ _ _ _ Try.eqGuardType132, Result.andThen_ok, run_neq_struct, eqs132]
  rfl
theorem rd_ne132 {W : World} {n : Nat} {L : List Blk} {E : List (Nat × Value)} {d : Option Nat} {t : TypeId} {pos : String} {after : Array Edge} {g : Option (Nat × Bool)} {T' : Nat} {o1 o2 : Operand} {x : Bk} (hx : ev E o1 = some (.agg x.enc.toArray)) (hy : ev E o2 = some (.agg x.enc.toArray)) :
    RD Try.prog W n L E ⟨d, .binOp .neq 132 o1 o2 T', t, pos, after, g⟩ (.bool false) := rd_cast (rd_bin hx hy (neS132 x x o1 o2)) (by rw [decide_eq_true rfl]; rfl)
set_option maxHeartbeats 4000000 in
theorem xf_dBlocks {W : World} {L : List Blk} (p : Option Addr) (n c : Nat) (xs : List Bk) (hx : xs.length = n) (hr : Rs W L p (xs.flatMap Bk.enc)) (hn : n ≤ 1000000) :
    XF Try.prog W 61 #[.slice p n c] L (fun v L' => ∃ s k l, v = .slice s n k ∧ SlO 7 132 (.slice s n k) n (xs.flatMap Bk.enc) l ∧ L' = l ++ L) := by
  refine xf_enter (args := [_]) Try.func61 rfl Try.ntmps61 rfl ?_
  focus
    refine xc_seq ?_
    refine xc_region ?_
    refine xo_rd (rd_assign rfl) rfl ?_
    refine xo_nil ?_
    refine xq_seq ?_
    refine xc_seq ?_
    refine xc_region ?_
    refine xo_rd (rd_assign rfl) rfl ?_
    refine xo_nil ?_
    refine xq_seq ?_
    refine xc_seq ?_
    refine xc_seq ?_
    refine xc_region ?_
    refine xo_rd (rd_assign rfl) rfl ?_
    refine xo_nil ?_
    refine xq_seq ?_
    refine xc_block ?_
  refine xc_loopI (ι := LgS) (fun z => z.i ≤ n ∧ SlO 7 132 (.slice z.s z.i z.k) z.i ((xs.take z.i).flatMap Bk.enc) z.l) (fun z => n - z.i) (fun z => z.l ++ L) (fun z => [(0, .slice p n c), (3, .slice z.s z.i z.k), (4, .int .i64 z.i)]) ⟨0, none, 0, []⟩ ⟨Nat.zero_le _, SlO.nil⟩ rfl (by repeat (first | exact keep_nil | refine keep_cons rfl ?_)) ?_
  rintro ⟨i, s, k, l⟩ ⟨hi, hO⟩
  dsimp only at hi hO ⊢
  by_cases hin : i < n
  · obtain ⟨b, o, hp, hc⟩ := hr.rows Bk.len (by decide) (by omega)
    subst hp
    have hci := hc i (by omega)
    have e1 : xs.take (i + 1) = xs.take i ++ [xs[i]] := by rw [List.take_add_one, List.getElem?_eq_getElem (by omega)]; rfl
    generalize xs[i] = x at *
    have hcI : ∀ L', (∀ z, z ∈ L → z ∈ L') → ∀ (j : Nat) (u : Value), x.enc[j]? = some u → Cl W L' b (o + (i : Int).toNat * 7 + j) u := fun L' h j u hj => (hci j u hj).mono h
    obtain ⟨ss, lo, to, hi', ji, ls, dl⟩ := x
    focus
      refine xc_seq ?_
      refine xc_seq ?_
      refine xc_region ?_
      refine xo_rd (rd_move rfl) rfl ?_
      refine xo_rd (rd_move rfl) rfl ?_
      refine xo_rd (rd_len rfl) rfl ?_
      refine xo_rd (rd_lss rfl rfl) rfl ?_
      refine xo_nil ?_
      refine xq_seq ?_
      refine xc_dec rfl (fun h1 => ?_) (fun h1 => (by exfalso; omega))
      refine xc_skip ?_
      refine xq_seq ?_
      refine xc_seq ?_
      refine xc_block ?_
      refine xc_seq ?_
      refine xc_region ?_
      refine xo_rd (rd_move rfl) rfl ?_
      refine xo_rd (rd_move rfl) rfl ?_
      refine xo_rd (rd_indexAddr rfl rfl (by omega) (by omega)) rfl ?_
      refine xo_rd (rd_loadA (vs := [Value.int .u32 ss, .int .u8 lo, .int .i32 to, .int .u32 hi', .int .u32 ji, .int .u32 ls, .int .u32 dl]) rfl rfl (hcI _ (by intro z hz; simp [hz]))) rfl ?_
      refine xo_ef rfl (ef_alloc fun r5 => ?_)
      refine xo_ef rfl (ef_storeB [] _ rfl rfl (by first | rfl | assumption) rfl rfl rfl ?_)
      refine xo_nil ?_
      refine xq_seq ?_
      refine xc_region ?_
      refine xo_rd (rd_move rfl) rfl ?_
      refine xo_rd (rd_fieldAddr rfl) rfl ?_
      refine xo_rd (rd_load1 rfl (Cl.o0 rfl)) rfl ?_
      refine xo_rd (rd_fieldAddr rfl) rfl ?_
      refine xo_rd (rd_load1 rfl (Cl.o0 rfl)) rfl ?_
      refine xo_rd (rd_fieldAddr rfl) rfl ?_
      refine xo_rd (rd_load1 rfl (Cl.o0 rfl)) rfl ?_
      refine xo_rd (rd_fieldAddr rfl) rfl ?_
      refine xo_rd (rd_load1 rfl (Cl.o0 rfl)) rfl ?_
      refine xo_rd (rd_fieldAddr rfl) rfl ?_
      refine xo_rd (rd_load1 rfl (Cl.o0 rfl)) rfl ?_
      refine xo_rd (rd_fieldAddr rfl) rfl ?_
      refine xo_rd (rd_load1 rfl (Cl.o0 rfl)) rfl ?_
      refine xo_rd (rd_fieldAddr rfl) rfl ?_
      refine xo_rd (rd_load1 rfl (Cl.o0 rfl)) rfl ?_
      refine xo_rd (rd_build rfl rfl rfl) rfl ?_
      refine xo_ef rfl (ef_sliceA (vs := Bk.enc ⟨ss, lo, to, hi', ji, ls, dl⟩) rfl rfl (by rw [Bk.len]; decide) (by rw [Bk.len]; decide) fun r32 => ?_)
      refine xo_ef rfl (ef_appendS [_, _] L l (news := Bk.enc ⟨ss, lo, to, hi', ji, ls, dl⟩) rfl rfl hO rfl (Rs.fresh (List.Mem.head _)) rfl rfl (by decide) (by omega) (by omega) fun s' k' l' hO' hk' => ?_)
      refine xo_rd (rd_assign rfl) rfl ?_
      refine xo_nil ?_
      refine xq_block ?_
      refine xq_seq ?_
      refine xc_region ?_
      refine xo_rd (rd_move rfl) rfl ?_
      refine xo_rd (rd_addn rfl rfl (by omega) (by omega)) rfl ?_
      refine xo_rd (rd_assign rfl) rfl ?_
      refine xo_nil ?_
    refine xq_tail (xq_tail (xq_roundI (⟨i + 1, s', k', l'⟩ : LgS) ⟨by dsimp only; omega, ?_⟩ (by dsimp only; omega) rfl (by repeat (first | exact keep_nil | refine keep_cons rfl ?_))))
    dsimp only
    rw [e1, List.flatMap_append, List.flatMap_singleton]
    exact hO'
  · obtain rfl : i = n := by omega
    rw [List.take_of_length_le (by omega)] at hO
    focus
      refine xc_seq ?_
      refine xc_seq ?_
      refine xc_region ?_
      refine xo_rd (rd_move rfl) rfl ?_
      refine xo_rd (rd_move rfl) rfl ?_
      refine xo_rd (rd_len rfl) rfl ?_
      refine xo_rd (rd_lss rfl rfl) rfl ?_
      refine xo_nil ?_
      refine xq_seq ?_
      refine xc_dec rfl (fun h1 => (by exfalso; omega)) (fun h1 => ?_)
      refine xc_exit ?_
      refine xq_then_exit ?_
      refine xq_then_exit ?_
      refine xq_block_hit ?_
      refine xq_seq ?_
      refine xc_seq ?_
      refine xc_region ?_
      refine xo_rd (rd_move rfl) rfl ?_
      refine xo_rd (rd_assign rfl) rfl ?_
      refine xo_nil ?_
      refine xq_seq ?_
      refine xc_ret ?_
    exact xq_ret1 (.inl rfl) Try.results61 rfl ⟨s, k, l, rfl, hO, rfl⟩
set_option maxHeartbeats 4000000 in
theorem xf_dSender {W : World} {L : List Blk} (x : Sn) (p : Option Addr) (c : Nat) (hr : Rs W L p (x.bl.flatMap Bk.enc)) (hn : x.bl.length ≤ 1000000) :
    XF Try.prog W 29 #[.agg (x.enc (.slice p x.bl.length c)).toArray] L (fun v L' => ∃ s k l, v = .agg (x.enc (.slice s x.bl.length k)).toArray ∧ SlO 7 132 (.slice s x.bl.length k) x.bl.length (x.bl.flatMap Bk.enc) l ∧ L' = l ++ L) := by
  refine xf_enter (args := [_]) Try.func29 rfl Try.ntmps29 rfl ?_
  obtain ⟨ss, nt, rt, pk, oc, xs⟩ := x
  unfold Sn.enc
  dsimp only at hr hn ⊢
  focus
    refine xc_seq ?_
    refine xc_region ?_
    refine xo_ef rfl (ef_box rfl fun r1 => ?_)
    refine xo_ef rfl (ef_alloc fun r2 => ?_)
    refine xo_nil ?_
    refine xq_seq ?_
    refine xc_seq ?_
    refine xc_drawM [0, 1, 0, 4, 0, 16, 0, 64, 0, 256, 0, 1024, 2048, 4778, 16383] [0, 1, 0, 4, 0, 16, 0, 64, 0, 256, 0, 1024, 2048, 4778, 16383] ([(r1, .cells #[.int .u32 ss, .int .u64 nt, .int .u32 rt, .int .u32 pk, .int .u32 oc, .slice p xs.length c] 53 (0, 0))]) (by kernel_rfl) (by kernel_rfl) (by kernel_rfl) ?_
    refine xm_take 0 (m' := 1) rfl (by kernel_rfl) (by first | exact Sb.refl | exact Sb.nil | (repeat (first | exact Sb.nil | exact Sb.refl | exact Sb.app0 | apply Sb.keep | apply Sb.keepApp | apply Sb.cons | apply Sb.app))) (rd_fieldAddr rfl) rfl (by kernel_rfl) ?_
    refine xm_take 1 (m' := 3) rfl (by kernel_rfl) (by first | exact Sb.refl | exact Sb.nil | (repeat (first | exact Sb.nil | exact Sb.refl | exact Sb.app0 | apply Sb.keep | apply Sb.keepApp | apply Sb.cons | apply Sb.app))) (rd_load1 rfl (Cl.o0 rfl)) rfl (by kernel_rfl) ?_
    refine xm_take 2 (m' := 7) rfl (by kernel_rfl) (by first | exact Sb.refl | exact Sb.nil | (repeat (first | exact Sb.nil | exact Sb.refl | exact Sb.app0 | apply Sb.keep | apply Sb.keepApp | apply Sb.cons | apply Sb.app))) (rd_fieldAddr rfl) rfl (by kernel_rfl) ?_
    refine xm_take 3 (m' := 15) rfl (by kernel_rfl) (by first | exact Sb.refl | exact Sb.nil | (repeat (first | exact Sb.nil | exact Sb.refl | exact Sb.app0 | apply Sb.keep | apply Sb.keepApp | apply Sb.cons | apply Sb.app))) (rd_load1 rfl (Cl.o0 rfl)) rfl (by kernel_rfl) ?_
    refine xm_take 4 (m' := 31) rfl (by kernel_rfl) (by first | exact Sb.refl | exact Sb.nil | (repeat (first | exact Sb.nil | exact Sb.refl | exact Sb.app0 | apply Sb.keep | apply Sb.keepApp | apply Sb.cons | apply Sb.app))) (rd_fieldAddr rfl) rfl (by kernel_rfl) ?_
    refine xm_take 5 (m' := 63) rfl (by kernel_rfl) (by first | exact Sb.refl | exact Sb.nil | (repeat (first | exact Sb.nil | exact Sb.refl | exact Sb.app0 | apply Sb.keep | apply Sb.keepApp | apply Sb.cons | apply Sb.app))) (rd_load1 rfl (Cl.o0 rfl)) rfl (by kernel_rfl) ?_
    refine xm_take 6 (m' := 127) rfl (by kernel_rfl) (by first | exact Sb.refl | exact Sb.nil | (repeat (first | exact Sb.nil | exact Sb.refl | exact Sb.app0 | apply Sb.keep | apply Sb.keepApp | apply Sb.cons | apply Sb.app))) (rd_fieldAddr rfl) rfl (by kernel_rfl) ?_
    refine xm_take 7 (m' := 255) rfl (by kernel_rfl) (by first | exact Sb.refl | exact Sb.nil | (repeat (first | exact Sb.nil | exact Sb.refl | exact Sb.app0 | apply Sb.keep | apply Sb.keepApp | apply Sb.cons | apply Sb.app))) (rd_load1 rfl (Cl.o0 rfl)) rfl (by kernel_rfl) ?_
    refine xm_take 8 (m' := 511) rfl (by kernel_rfl) (by first | exact Sb.refl | exact Sb.nil | (repeat (first | exact Sb.nil | exact Sb.refl | exact Sb.app0 | apply Sb.keep | apply Sb.keepApp | apply Sb.cons | apply Sb.app))) (rd_fieldAddr rfl) rfl (by kernel_rfl) ?_
    refine xm_take 9 (m' := 1023) rfl (by kernel_rfl) (by first | exact Sb.refl | exact Sb.nil | (repeat (first | exact Sb.nil | exact Sb.refl | exact Sb.app0 | apply Sb.keep | apply Sb.keepApp | apply Sb.cons | apply Sb.app))) (rd_load1 rfl (Cl.o0 rfl)) rfl (by kernel_rfl) ?_
    refine xm_take 10 (m' := 2047) rfl (by kernel_rfl) (by first | exact Sb.refl | exact Sb.nil | (repeat (first | exact Sb.nil | exact Sb.refl | exact Sb.app0 | apply Sb.keep | apply Sb.keepApp | apply Sb.cons | apply Sb.app))) (rd_fieldAddr rfl) rfl (by kernel_rfl) ?_
    refine xm_take 11 (m' := 4095) rfl (by kernel_rfl) (by first | exact Sb.refl | exact Sb.nil | (repeat (first | exact Sb.nil | exact Sb.refl | exact Sb.app0 | apply Sb.keep | apply Sb.keepApp | apply Sb.cons | apply Sb.app))) (rd_load1 rfl (Cl.o0 rfl)) rfl (by kernel_rfl) ?_
    refine xm_one 12 (m' := 8191) rfl (by kernel_rfl) rfl (by kernel_rfl) (ef_call rfl (XF.mono (xf_dBlocks p xs.length c xs rfl (hr.mono (by intro z hz; simp [hz])) hn) ?_))
    rintro v L' ⟨s, k, l, rfl, hO, rfl⟩
    refine xmx_perm (perm_in2 l L) ?_
    refine ⟨(by first | exact Sb.refl | exact Sb.nil | (repeat (first | exact Sb.nil | exact Sb.refl | exact Sb.app0 | apply Sb.keep | apply Sb.keepApp | apply Sb.cons | apply Sb.app))), ?_⟩
    refine xm_take 13 (m' := 16383) rfl (by kernel_rfl) (by first | exact Sb.refl | exact Sb.nil | (repeat (first | exact Sb.nil | exact Sb.refl | exact Sb.app0 | apply Sb.keep | apply Sb.keepApp | apply Sb.cons | apply Sb.app))) (rd_build rfl rfl rfl) rfl (by kernel_rfl) ?_
    refine xm_one 14 (m' := 32767) rfl (by kernel_rfl) rfl (by kernel_rfl) (ef_storeB [] _ rfl rfl (by first | rfl | assumption) rfl rfl rfl ?_)
    refine ⟨(by first | exact Sb.refl | exact Sb.nil | (repeat (first | exact Sb.nil | exact Sb.refl | exact Sb.app0 | apply Sb.keep | apply Sb.keepApp | apply Sb.cons | apply Sb.app))), ?_⟩
    refine xm_done (by kernel_rfl) ?_
    refine xq_seq ?_
    refine xc_ret ?_
  all_goals exact xq_retB (.inl rfl) Try.results29 rfl Kn.o0 rfl (.cons _ (.cons _ (List.Sublist.refl _))) ⟨s, k, l, rfl, hO, rfl⟩
set_option maxHeartbeats 4000000 in
theorem xf_dReceiver {W : World} {L : List Blk} (ss : Int) (p : Option Addr) (n c : Nat) (xs : List Bk) (hx : xs.length = n) (hr : Rs W L p (xs.flatMap Bk.enc)) (hn : n ≤ 1000000) :
    XF Try.prog W 31 #[.agg #[.int .u32 ss, .slice p n c]] L (fun v L' => ∃ s k l, v = .agg #[.int .u32 ss, .slice s n k] ∧ SlO 7 132 (.slice s n k) n (xs.flatMap Bk.enc) l ∧ L' = l ++ L) := by
  refine xf_enter (args := [_]) Try.func31 rfl Try.ntmps31 rfl ?_
  focus
    refine xc_seq ?_
    refine xc_region ?_
    refine xo_ef rfl (ef_box rfl fun r1 => ?_)
    refine xo_ef rfl (ef_alloc fun r2 => ?_)
    refine xo_nil ?_
    refine xq_seq ?_
    refine xc_seq ?_
    refine xc_drawM [0, 1, 0, 4, 8, 18, 63] [0, 1, 0, 4, 8, 18, 63] ([(r1, .cells #[.int .u32 ss, .slice p n c] 60 (0, 0))]) (by kernel_rfl) (by kernel_rfl) (by kernel_rfl) ?_
    refine xm_take 0 (m' := 1) rfl (by kernel_rfl) (by first | exact Sb.refl | exact Sb.nil | (repeat (first | exact Sb.nil | exact Sb.refl | exact Sb.app0 | apply Sb.keep | apply Sb.keepApp | apply Sb.cons | apply Sb.app))) (rd_fieldAddr rfl) rfl (by kernel_rfl) ?_
    refine xm_take 1 (m' := 3) rfl (by kernel_rfl) (by first | exact Sb.refl | exact Sb.nil | (repeat (first | exact Sb.nil | exact Sb.refl | exact Sb.app0 | apply Sb.keep | apply Sb.keepApp | apply Sb.cons | apply Sb.app))) (rd_load1 rfl (Cl.o0 rfl)) rfl (by kernel_rfl) ?_
    refine xm_take 2 (m' := 7) rfl (by kernel_rfl) (by first | exact Sb.refl | exact Sb.nil | (repeat (first | exact Sb.nil | exact Sb.refl | exact Sb.app0 | apply Sb.keep | apply Sb.keepApp | apply Sb.cons | apply Sb.app))) (rd_fieldAddr rfl) rfl (by kernel_rfl) ?_
    refine xm_take 3 (m' := 15) rfl (by kernel_rfl) (by first | exact Sb.refl | exact Sb.nil | (repeat (first | exact Sb.nil | exact Sb.refl | exact Sb.app0 | apply Sb.keep | apply Sb.keepApp | apply Sb.cons | apply Sb.app))) (rd_load1 rfl (Cl.o0 rfl)) rfl (by kernel_rfl) ?_
    refine xm_one 4 (m' := 31) rfl (by kernel_rfl) rfl (by kernel_rfl) (ef_call rfl (XF.mono (xf_dBlocks p n c xs hx (hr.mono (by intro z hz; simp [hz])) hn) ?_))
    rintro v L' ⟨s, k, l, rfl, hO, rfl⟩
    refine xmx_perm (perm_in2 l L) ?_
    refine ⟨(by first | exact Sb.refl | exact Sb.nil | (repeat (first | exact Sb.nil | exact Sb.refl | exact Sb.app0 | apply Sb.keep | apply Sb.keepApp | apply Sb.cons | apply Sb.app))), ?_⟩
    refine xm_take 5 (m' := 63) rfl (by kernel_rfl) (by first | exact Sb.refl | exact Sb.nil | (repeat (first | exact Sb.nil | exact Sb.refl | exact Sb.app0 | apply Sb.keep | apply Sb.keepApp | apply Sb.cons | apply Sb.app))) (rd_build rfl rfl rfl) rfl (by kernel_rfl) ?_
    refine xm_one 6 (m' := 127) rfl (by kernel_rfl) rfl (by kernel_rfl) (ef_storeB [] _ rfl rfl (by first | rfl | assumption) rfl rfl rfl ?_)
    refine ⟨(by first | exact Sb.refl | exact Sb.nil | (repeat (first | exact Sb.nil | exact Sb.refl | exact Sb.app0 | apply Sb.keep | apply Sb.keepApp | apply Sb.cons | apply Sb.app))), ?_⟩
    refine xm_done (by kernel_rfl) ?_
    refine xq_seq ?_
    refine xc_ret ?_
  all_goals exact xq_retB (.inl rfl) Try.results31 rfl Kn.o0 rfl (.cons _ (.cons _ (List.Sublist.refl _))) ⟨s, k, l, rfl, hO, rfl⟩
set_option maxHeartbeats 4000000 in
theorem xf_dChunks {W : World} {L : List Blk} (p : Option Addr) (n c : Nat) (xs : List Ck) (hx : xs.length = n) (hr : Rs W L p (xs.flatMap Ck.enc)) (hn : n ≤ 1000000) :
    XF Try.prog W 33 #[.slice p n c] L (fun v L' => ∃ s k l, v = .slice s n k ∧ SlO 2 113 (.slice s n k) n (xs.flatMap Ck.enc) l ∧ L' = l ++ L) := by
  refine xf_enter (args := [_]) Try.func33 rfl Try.ntmps33 rfl ?_
  focus
    refine xc_seq ?_
    refine xc_region ?_
    refine xo_rd (rd_assign rfl) rfl ?_
    refine xo_nil ?_
    refine xq_seq ?_
    refine xc_seq ?_
    refine xc_region ?_
    refine xo_rd (rd_assign rfl) rfl ?_
    refine xo_nil ?_
    refine xq_seq ?_
    refine xc_seq ?_
    refine xc_seq ?_
    refine xc_region ?_
    refine xo_rd (rd_assign rfl) rfl ?_
    refine xo_nil ?_
    refine xq_seq ?_
    refine xc_block ?_
  refine xc_loopI (ι := LgS) (fun z => z.i ≤ n ∧ SlO 2 113 (.slice z.s z.i z.k) z.i ((xs.take z.i).flatMap Ck.enc) z.l) (fun z => n - z.i) (fun z => z.l ++ L) (fun z => [(0, .slice p n c), (3, .slice z.s z.i z.k), (4, .int .i64 z.i)]) ⟨0, none, 0, []⟩ ⟨Nat.zero_le _, SlO.nil⟩ rfl (by repeat (first | exact keep_nil | refine keep_cons rfl ?_)) ?_
  rintro ⟨i, s, k, l⟩ ⟨hi, hO⟩
  dsimp only at hi hO ⊢
  by_cases hin : i < n
  · obtain ⟨b, o, hp, hc⟩ := hr.rows Ck.len (by decide) (by omega)
    subst hp
    have hci := hc i (by omega)
    have e1 : xs.take (i + 1) = xs.take i ++ [xs[i]] := by rw [List.take_add_one, List.getElem?_eq_getElem (by omega)]; rfl
    generalize xs[i] = x at *
    obtain ⟨ss, nm⟩ := x
    have hc0 : ∀ L', (∀ z, z ∈ L → z ∈ L') → Cl W L' b (o + (i : Int).toNat * 2 + 0) (.int .u32 ss) := fun L' h => (hci 0 _ rfl).mono h
    have hc1 : ∀ L', (∀ z, z ∈ L → z ∈ L') → Cl W L' b (o + (i : Int).toNat * 2 + 1) (.string nm) := fun L' h => (hci 1 _ rfl).mono h
    focus
      refine xc_seq ?_
      refine xc_seq ?_
      refine xc_region ?_
      refine xo_rd (rd_move rfl) rfl ?_
      refine xo_rd (rd_move rfl) rfl ?_
      refine xo_rd (rd_len rfl) rfl ?_
      refine xo_rd (rd_lss rfl rfl) rfl ?_
      refine xo_nil ?_
      refine xq_seq ?_
      refine xc_dec rfl (fun h1 => ?_) (fun h1 => (by exfalso; omega))
      refine xc_skip ?_
      refine xq_seq ?_
      refine xc_seq ?_
      refine xc_block ?_
      refine xc_drawM [0, 0, 0, 6, 8, 16, 0, 0, 192, 256, 512, 1056, 2048, 4097, 16383] [0, 0, 0, 6, 8, 16, 0, 0, 192, 256, 512, 1056, 2048, 4097, 16383] L (by kernel_rfl) (by kernel_rfl) (by kernel_rfl) ?_
      refine xm_take 0 (m' := 1) rfl (by kernel_rfl) (by first | exact Sb.refl | exact Sb.nil | (repeat (first | exact Sb.nil | exact Sb.refl | exact Sb.app0 | apply Sb.keep | apply Sb.keepApp | apply Sb.cons | apply Sb.app))) (rd_move rfl) rfl (by kernel_rfl) ?_
      refine xm_take 1 (m' := 3) rfl (by kernel_rfl) (by first | exact Sb.refl | exact Sb.nil | (repeat (first | exact Sb.nil | exact Sb.refl | exact Sb.app0 | apply Sb.keep | apply Sb.keepApp | apply Sb.cons | apply Sb.app))) (rd_move rfl) rfl (by kernel_rfl) ?_
      refine xm_take 2 (m' := 7) rfl (by kernel_rfl) (by first | exact Sb.refl | exact Sb.nil | (repeat (first | exact Sb.nil | exact Sb.refl | exact Sb.app0 | apply Sb.keep | apply Sb.keepApp | apply Sb.cons | apply Sb.app))) (rd_move rfl) rfl (by kernel_rfl) ?_
      refine xm_take 3 (m' := 15) rfl (by kernel_rfl) (by first | exact Sb.refl | exact Sb.nil | (repeat (first | exact Sb.nil | exact Sb.refl | exact Sb.app0 | apply Sb.keep | apply Sb.keepApp | apply Sb.cons | apply Sb.app))) (rd_indexAddr rfl rfl (by omega) (by omega)) rfl (by kernel_rfl) ?_
      refine xm_take 4 (m' := 31) rfl (by kernel_rfl) (by first | exact Sb.refl | exact Sb.nil | (repeat (first | exact Sb.nil | exact Sb.refl | exact Sb.app0 | apply Sb.keep | apply Sb.keepApp | apply Sb.cons | apply Sb.app))) (rd_fieldAddr rfl) rfl (by kernel_rfl) ?_
      refine xm_take 5 (m' := 63) rfl (by kernel_rfl) (by first | exact Sb.refl | exact Sb.nil | (repeat (first | exact Sb.nil | exact Sb.refl | exact Sb.app0 | apply Sb.keep | apply Sb.keepApp | apply Sb.cons | apply Sb.app))) (rd_load1 rfl (hc0 _ (by intro z hz; simp [hz]))) rfl (by kernel_rfl) ?_
      refine xm_take 6 (m' := 127) rfl (by kernel_rfl) (by first | exact Sb.refl | exact Sb.nil | (repeat (first | exact Sb.nil | exact Sb.refl | exact Sb.app0 | apply Sb.keep | apply Sb.keepApp | apply Sb.cons | apply Sb.app))) (rd_move rfl) rfl (by kernel_rfl) ?_
      refine xm_take 7 (m' := 255) rfl (by kernel_rfl) (by first | exact Sb.refl | exact Sb.nil | (repeat (first | exact Sb.nil | exact Sb.refl | exact Sb.app0 | apply Sb.keep | apply Sb.keepApp | apply Sb.cons | apply Sb.app))) (rd_move rfl) rfl (by kernel_rfl) ?_
      refine xm_take 8 (m' := 511) rfl (by kernel_rfl) (by first | exact Sb.refl | exact Sb.nil | (repeat (first | exact Sb.nil | exact Sb.refl | exact Sb.app0 | apply Sb.keep | apply Sb.keepApp | apply Sb.cons | apply Sb.app))) (rd_indexAddr rfl rfl (by omega) (by omega)) rfl (by kernel_rfl) ?_
      refine xm_take 9 (m' := 1023) rfl (by kernel_rfl) (by first | exact Sb.refl | exact Sb.nil | (repeat (first | exact Sb.nil | exact Sb.refl | exact Sb.app0 | apply Sb.keep | apply Sb.keepApp | apply Sb.cons | apply Sb.app))) (rd_fieldAddr rfl) rfl (by kernel_rfl) ?_
      refine xm_take 10 (m' := 2047) rfl (by kernel_rfl) (by first | exact Sb.refl | exact Sb.nil | (repeat (first | exact Sb.nil | exact Sb.refl | exact Sb.app0 | apply Sb.keep | apply Sb.keepApp | apply Sb.cons | apply Sb.app))) (rd_load1 rfl (hc1 _ (by intro z hz; simp [hz]))) rfl (by kernel_rfl) ?_
      refine xm_take 11 (m' := 4095) rfl (by kernel_rfl) (by first | exact Sb.refl | exact Sb.nil | (repeat (first | exact Sb.nil | exact Sb.refl | exact Sb.app0 | apply Sb.keep | apply Sb.keepApp | apply Sb.cons | apply Sb.app))) (rd_build rfl rfl rfl) rfl (by kernel_rfl) ?_
      refine xm_one 12 (m' := 8191) rfl (by kernel_rfl) rfl (by kernel_rfl) (ef_sliceA (vs := Ck.enc ⟨ss, nm⟩) rfl rfl (by rw [Ck.len]; decide) (by rw [Ck.len]; decide) fun r32 => ?_)
      refine ⟨(by first | exact Sb.refl | exact Sb.nil | (repeat (first | exact Sb.nil | exact Sb.refl | exact Sb.app0 | apply Sb.keep | apply Sb.keepApp | apply Sb.cons | apply Sb.app))), ?_⟩
      refine xm_one 13 (m' := 16383) rfl (by kernel_rfl) rfl (by kernel_rfl) (ef_appendS [_] L l (news := Ck.enc ⟨ss, nm⟩) rfl rfl hO rfl (Rs.fresh (List.Mem.head _)) rfl rfl (by decide) (by omega) (by omega) fun s' k' l' hO' hk' => ?_)
      refine ⟨(by first | exact Sb.refl | exact Sb.nil | (repeat (first | exact Sb.nil | exact Sb.refl | exact Sb.app0 | apply Sb.keep | apply Sb.keepApp | apply Sb.cons | apply Sb.app))), ?_⟩
      refine xm_take 14 (m' := 32767) rfl (by kernel_rfl) (by first | exact Sb.refl | exact Sb.nil | (repeat (first | exact Sb.nil | exact Sb.refl | exact Sb.app0 | apply Sb.keep | apply Sb.keepApp | apply Sb.cons | apply Sb.app))) (rd_assign rfl) rfl (by kernel_rfl) ?_
      refine xm_done (by kernel_rfl) ?_
      refine xq_block ?_
      refine xq_seq ?_
      refine xc_region ?_
      refine xo_rd (rd_move rfl) rfl ?_
      refine xo_rd (rd_addn rfl rfl (by omega) (by omega)) rfl ?_
      refine xo_rd (rd_assign rfl) rfl ?_
      refine xo_nil ?_
    all_goals refine xq_tail (xq_roundI (⟨i + 1, s', k', l'⟩ : LgS) ⟨by dsimp only; omega, ?_⟩ (by dsimp only; omega) rfl (by repeat (first | exact keep_nil | refine keep_cons rfl ?_)))
    all_goals dsimp only
    all_goals rw [e1, List.flatMap_append, List.flatMap_singleton]
    all_goals exact hO'
  · obtain rfl : i = n := by omega
    rw [List.take_of_length_le (by omega)] at hO
    focus
      refine xc_seq ?_
      refine xc_seq ?_
      refine xc_region ?_
      refine xo_rd (rd_move rfl) rfl ?_
      refine xo_rd (rd_move rfl) rfl ?_
      refine xo_rd (rd_len rfl) rfl ?_
      refine xo_rd (rd_lss rfl rfl) rfl ?_
      refine xo_nil ?_
      refine xq_seq ?_
      refine xc_dec rfl (fun h1 => (by exfalso; omega)) (fun h1 => ?_)
      refine xc_exit ?_
      refine xq_then_exit ?_
      refine xq_then_exit ?_
      refine xq_block_hit ?_
      refine xq_seq ?_
      refine xc_seq ?_
      refine xc_region ?_
      refine xo_rd (rd_move rfl) rfl ?_
      refine xo_rd (rd_assign rfl) rfl ?_
      refine xo_nil ?_
      refine xq_seq ?_
      refine xc_ret ?_
    exact xq_ret1 (.inl rfl) Try.results33 rfl ⟨s, k, l, rfl, hO, rfl⟩
set_option maxHeartbeats 4000000 in
theorem xf_dBye {W : World} {L : List Blk} (x : By') (p : Option Addr) (c : Nat) (hr : Rs W L p (ints .u32 x.so)) (hn : x.so.length ≤ 1000000) :
    XF Try.prog W 35 #[.agg (x.enc (.slice p x.so.length c)).toArray] L (fun v L' => ∃ s k l, v = .agg (x.enc (.slice s x.so.length k)).toArray ∧ SlO 1 49 (.slice s x.so.length k) x.so.length (ints .u32 x.so) l ∧ L' = l ++ L) := by
  refine xf_enter (args := [_]) Try.func35 rfl Try.ntmps35 rfl ?_
  obtain ⟨so, re⟩ := x
  unfold By'.enc
  dsimp only at hr hn ⊢
  focus
    refine xc_seq ?_
    refine xc_region ?_
    refine xo_ef rfl (ef_box rfl fun r1 => ?_)
    refine xo_ef rfl (ef_alloc fun r2 => ?_)
    refine xo_nil ?_
    refine xq_seq ?_
    refine xc_seq ?_
    refine xc_region ?_
    refine xo_rd (rd_assign rfl) rfl ?_
    refine xo_nil ?_
    refine xq_seq ?_
    refine xc_seq ?_
    refine xc_drawM [0, 0, 2, 5, 0, 16, 40, 127] [0, 0, 2, 5, 0, 16, 40, 127] ([(r1, .cells #[.slice p so.length c, .string re] 57 (0, 0))]) (by kernel_rfl) (by kernel_rfl) (by kernel_rfl) ?_
    refine xm_take 0 (m' := 1) rfl (by kernel_rfl) (by first | exact Sb.refl | exact Sb.nil | (repeat (first | exact Sb.nil | exact Sb.refl | exact Sb.app0 | apply Sb.keep | apply Sb.keepApp | apply Sb.cons | apply Sb.app))) (rd_move rfl) rfl (by kernel_rfl) ?_
    refine xm_take 1 (m' := 3) rfl (by kernel_rfl) (by first | exact Sb.refl | exact Sb.nil | (repeat (first | exact Sb.nil | exact Sb.refl | exact Sb.app0 | apply Sb.keep | apply Sb.keepApp | apply Sb.cons | apply Sb.app))) (rd_fieldAddr rfl) rfl (by kernel_rfl) ?_
    refine xm_take 2 (m' := 7) rfl (by kernel_rfl) (by first | exact Sb.refl | exact Sb.nil | (repeat (first | exact Sb.nil | exact Sb.refl | exact Sb.app0 | apply Sb.keep | apply Sb.keepApp | apply Sb.cons | apply Sb.app))) (rd_load1 rfl (Cl.o0 rfl)) rfl (by kernel_rfl) ?_
    refine xm_take 4 (m' := 23) rfl (by kernel_rfl) (by first | exact Sb.refl | exact Sb.nil | (repeat (first | exact Sb.nil | exact Sb.refl | exact Sb.app0 | apply Sb.keep | apply Sb.keepApp | apply Sb.cons | apply Sb.app))) (rd_fieldAddr rfl) rfl (by kernel_rfl) ?_
    refine xm_take 5 (m' := 55) rfl (by kernel_rfl) (by first | exact Sb.refl | exact Sb.nil | (repeat (first | exact Sb.nil | exact Sb.refl | exact Sb.app0 | apply Sb.keep | apply Sb.keepApp | apply Sb.cons | apply Sb.app))) (rd_load1 rfl (Cl.o0 rfl)) rfl (by kernel_rfl) ?_
    refine xm_one 3 (m' := 63) rfl (by kernel_rfl) rfl (by kernel_rfl) (ef_appendS [_, _] L [] (news := ints .u32 so) rfl rfl SlO.nil rfl (hr.mono (by intro z hz; simp [hz])) (by rw [ints_len, Nat.mul_one]) (ints_one _ _) (by decide) (by omega) (by omega) fun s k l hO hk => ?_)
    refine ⟨(by first | exact Sb.refl | exact Sb.nil | (repeat (first | exact Sb.nil | exact Sb.refl | exact Sb.app0 | apply Sb.keep | apply Sb.keepApp | apply Sb.cons | apply Sb.app))), ?_⟩
    refine xm_take 6 (m' := 127) rfl (by kernel_rfl) (by first | exact Sb.refl | exact Sb.nil | (repeat (first | exact Sb.nil | exact Sb.refl | exact Sb.app0 | apply Sb.keep | apply Sb.keepApp | apply Sb.cons | apply Sb.app))) (rd_build rfl rfl rfl) rfl (by kernel_rfl) ?_
    refine xm_one 7 (m' := 255) rfl (by kernel_rfl) rfl (by kernel_rfl) (ef_storeB [] _ rfl rfl (by first | rfl | assumption) rfl rfl rfl ?_)
    refine ⟨(by first | exact Sb.refl | exact Sb.nil | (repeat (first | exact Sb.nil | exact Sb.refl | exact Sb.app0 | apply Sb.keep | apply Sb.keepApp | apply Sb.cons | apply Sb.app))), ?_⟩
    refine xm_done (by kernel_rfl) ?_
    refine xq_seq ?_
    refine xc_ret ?_
  rw [Nat.zero_add, List.nil_append] at hO
  all_goals exact xq_retB (.inl rfl) Try.results35 rfl Kn.o0 rfl (.cons _ (.cons _ (List.Sublist.refl _))) ⟨s, k, l, by rw [Nat.zero_add]; rfl, hO, rfl⟩
end Go.Proofs.Ytohlaabclifbfaa.X
