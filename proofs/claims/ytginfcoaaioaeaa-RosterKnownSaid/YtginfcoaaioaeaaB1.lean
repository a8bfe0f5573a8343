/-
  RosterPlays: the walk of the law.
-/
import Derived.Test.YtginfcoaaioaeaaA9
namespace Go.Proofs.Ytginfcoaaioaeaa.X
open Go Go.RowKit
set_option linter.unusedVariables false
set_option linter.unusedSimpArgs false
structure PlS where
  i : Nat
  x : Ro
  p : Option Addr
  c : Nat
  l : List Blk
structure PlI (W : World) (most : Int) (n : Nat) (s : PlS) : Prop where
  i : s.i ≤ n
  ok : s.x.Ok
  most : s.x.most = most
  rs : Rs W s.l s.p (s.x.ms.flatMap Mb.enc)
theorem ef_callV {P : Program} {W : World} {n : Nat} {L : List Blk} {E : List (Nat × Value)} {K : Value → List Blk → Prop} {d : Option Nat} {t : TypeId} {pos : String} {after : Array Edge} {g : Option (Nat × Bool)} {f : FuncId} {xs : List Operand} {ts : Array TypeId} {vs : List Value} {v0 : Value} [hC : Cf P f] (hx : evs E xs = some vs) (h : XF P W f vs.toArray L (fun v L' => v = v0 ∧ L' = L)) (hK : K v0 L) : EF P W n L E ⟨d, .call ⟨.value (.func f), xs.toArray, ts⟩, t, pos, after, g⟩ K := ef_call hx (h.mono (by rintro _ _ ⟨rfl, rfl⟩; exact hK))
set_option maxHeartbeats 8000000 in
theorem xf_RosterPlays {W : World} (most : Int) (p : Option Addr) (n c : Nat) (xs : List Act) (id s : Int) (hx : xs.length = n) (hr : Rs W [] p (xs.flatMap Act.enc)) (hn : n ≤ 9223372036854775807) :
    XF Try.prog W 4 #[.int .i64 most, .slice p n c, .int .i64 id, .int .u32 s] [] (fun v L' => v = .bool true) := by
  refine xf_enter (args := [_, _, _, _]) Try.func4 rfl Try.ntmps4 rfl ?_
  focus
    refine xc_seq ?_
    refine xc_region ?_
    refine xo_rd (rd_assign rfl) rfl ?_
    refine xo_nil ?_
    refine xq_seq ?_
    refine xc_seq ?_
    refine xc_seq ?_
    refine xc_region ?_
    refine xo_rd (rd_move rfl) rfl ?_
    refine xo_rd (rd_len rfl) rfl ?_
    refine xo_rd (rd_gtr rfl rfl) rfl ?_
    refine xo_nil ?_
    refine xq_seq ?_
    refine xc_dec rfl (fun hb1 => ?_) (fun hb1 => ?_)
    refine xc_seq ?_
    refine xc_region ?_
    refine xo_ef rfl (ef_call rfl (XF.mono (xf_works) ?_))
    rintro v L' ⟨rfl, rfl⟩
    refine xo_rd (rd_assign rfl) rfl ?_
    refine xo_nil ?_
    refine xq_seq ?_
    refine xc_ret ?_
    refine xq_then_ret ?_
    exact xq_ret1 (.inl rfl) Try.results4 rfl (rfl)
    refine xc_skip ?_
    refine xq_seq ?_
    refine xc_seq ?_
    refine xc_region ?_
    refine xo_rd (rd_move rfl) rfl ?_
  by_cases hs : 0 ≤ most ∧ most ≤ 32
  · refine xo_ef rfl (ef_call rfl (XF.mono (xf_new most hs) ?_))
    rintro v L' ⟨x, hxo, rfl, hmo, hms, rfl⟩
    focus
      refine xo_rd (rd_move rfl) rfl ?_
      refine xo_rd (rd_extract rfl rfl) rfl ?_
      refine xo_rd (rd_extract rfl rfl) rfl ?_
      refine xo_rd (rd_assign rfl) rfl ?_
      refine xo_rd (rd_assign rfl) rfl ?_
      refine xo_nil ?_
      refine xq_seq ?_
      refine xc_seq ?_
      refine xc_region ?_
      refine xo_rd (rd_move rfl) rfl ?_
      refine xo_ef rfl (ef_call rfl (XF.mono (xf_rnew most hs) ?_))
      rintro v L' ⟨rfl, rfl⟩
      refine xo_rd (rd_move rfl) rfl ?_
      refine xo_rd (rd_extract rfl rfl) rfl ?_
      refine xo_rd (rd_extract rfl rfl) rfl ?_
      refine xo_ef rfl (ef_alloc fun r11 => ?_)
      refine xo_ef rfl (ef_storeB [] _ rfl rfl (by first | rfl | assumption) rfl rfl rfl ?_)
      refine xo_rd (rd_assign rfl) rfl ?_
      refine xo_nil ?_
      refine xq_seq ?_
      refine xc_seq ?_
      refine xc_seq ?_
      refine xc_region ?_
      refine xo_rd (rd_move rfl) rfl ?_
      refine xo_rd (rd_move rfl) rfl ?_
      refine xo_rd (rd_neq rfl rfl) rfl ?_
      refine xo_rd (rd_move rfl) rfl ?_
      refine xo_grd rfl rfl (rd_move rfl) rfl ?_
      refine xo_grd rfl rfl (rd_eql rfl rfl) rfl ?_
      refine xo_grd rfl rfl (rd_move rfl) rfl ?_
      refine xo_grd rfl rfl (rd_nenil rfl) rfl ?_
      refine xo_grd rfl rfl (rd_neb rfl rfl) rfl ?_
      refine xo_rd (rd_pickf rfl rfl) rfl ?_
      refine xo_nil ?_
      refine xq_seq ?_
      refine xc_condf rfl ?_
      refine xc_skip ?_
      refine xq_seq ?_
      refine xc_seq ?_
      refine xc_seq ?_
      refine xc_region ?_
      refine xo_rd (rd_assign rfl) rfl ?_
      refine xo_nil ?_
      refine xq_seq ?_
      refine xc_block ?_
    refine xc_loopI (ι := PlS) (PlI W most n) (fun s => n - s.i) (fun s => (r11, .cells #[.int .i64 most, .slice s.p s.x.ms.length s.c] 44 (0, 0)) :: (s.x.blks ++ s.l)) (fun q => [(1, .slice p n c), (2, .int .i64 id), (3, .int .u32 s), (9, .pointer (some ⟨q.x.c, 0, none⟩)), (10, .int .i64 0), (11, .pointer (some ⟨r11, 0, none⟩)), (13, .int .i64 q.i)]) ⟨0, x, none, 0, []⟩ ⟨Nat.zero_le _, hxo, hmo, by dsimp only; rw [hms]; exact Rs.nil⟩ (by dsimp only; rw [hms]; rfl) (by repeat (first | exact keep_nil | refine keep_cons rfl ?_)) ?_
    rintro ⟨i, x, pr, cr, l⟩ ⟨hi, hxo, hmo, hrr⟩
    dsimp only at hi hxo hmo hrr ⊢
    focus
      refine xc_seq ?_
      refine xc_seq ?_
      refine xc_region ?_
      refine xo_rd (rd_move rfl) rfl ?_
      refine xo_rd (rd_move rfl) rfl ?_
      refine xo_rd (rd_len rfl) rfl ?_
      refine xo_rd (rd_lss rfl rfl) rfl ?_
      refine xo_rd (rd_move rfl) rfl ?_
      refine xo_dec 44 rfl (fun hi1 => ?_) (fun hi1 => ?_)
      refine xo_grd rfl rfl (rd_move rfl) rfl ?_
      refine xo_grd rfl rfl (rd_eql rfl rfl) rfl ?_
      refine xo_rd (rd_pickt rfl rfl) rfl ?_
      refine xo_nil ?_
      refine xq_seq ?_
      refine xc_condt rfl ?_
      refine xc_skip ?_
      refine xq_seq ?_
      refine xc_seq ?_
      refine xc_block ?_
      refine xc_seq ?_
      refine xc_region ?_
      refine xo_rd (rd_assign rfl) rfl ?_
      refine xo_rd (rd_assign rfl) rfl ?_
      refine xo_nil ?_
      refine xq_seq ?_
      rotate_left
      refine xo_gskip rfl rfl rfl rfl ?_
      refine xo_gskip rfl rfl rfl rfl ?_
      refine xo_rd (rd_pickf rfl rfl) rfl ?_
      refine xo_nil ?_
      refine xq_seq ?_
      refine xc_condf rfl ?_
      refine xc_exit ?_
      refine xq_then_exit ?_
      refine xq_then_exit ?_
      refine xq_block_hit ?_
      refine xq_seq ?_
      refine xc_seq ?_
      refine xc_region ?_
      refine xo_ef rfl (ef_call rfl (XF.mono (xf_works) ?_))
      rintro v L' ⟨rfl, rfl⟩
      refine xo_rd (rd_assign rfl) rfl ?_
      refine xo_nil ?_
      refine xq_seq ?_
      refine xc_ret ?_
      exact xq_ret1 (.inl rfl) Try.results4 rfl (rfl)
    · have hin : i < xs.length := by omega
      obtain ⟨b0, o0, hp, hc⟩ := hr.rows Act.len (by decide) (by omega)
      subst hp
      have hci := hc i hin
      generalize xs[i] = a at *
      have hcA : ∀ (A : List Blk) (j : Nat) (u : Value), a.enc[j]? = some u → Cl W A b0 (o0 + i * 5 + j) u := fun A j u hj => (hci j u hj).nil
      have hcM : ∀ (A : List Blk) (j : Nat) (u : Value), a.f1.enc[j]? = some u → Cl W A b0 (o0 + i * 5 + 1 + j) u := fun A j u hj => by
        have := hcA A (1 + j) u (by unfold Act.enc; rw [List.getElem?_append_right (by simp)]; simpa using hj)
        rwa [Nat.add_assoc]
      have hlm := hxo.fit.len
      have hmost := hxo.fit.most
      refine xc_join (ι := Ro × Option Addr × Nat × List Blk × Int) (fun q => q.1.Ok ∧ q.1.most = most ∧ Rs W q.2.2.2.1 q.2.1 (q.1.ms.flatMap Mb.enc)) (fun q => (r11, .cells #[.int .i64 most, .slice q.2.1 q.1.ms.length q.2.2.1] 44 (0, 0)) :: (q.1.blks ++ q.2.2.2.1)) (fun q => [(1, .slice (some ⟨b0, o0, none⟩) n c), (2, .int .i64 id), (3, .int .u32 s), (9, .pointer (some ⟨q.1.c, 0, none⟩)), (10, .int .i64 0), (11, .pointer (some ⟨r11, 0, none⟩)), (13, .int .i64 i), (14, .int .i64 q.2.2.2.2), (15, .int .i64 q.2.2.2.2)]) ?_ ?_
      · focus
          refine xc_seq ?_
          refine xc_region ?_
          refine xo_rd (rd_move rfl) rfl ?_
          refine xo_rd (rd_move rfl) rfl ?_
          refine xo_rd (rd_indexAddr rfl rfl (by omega) (by omega)) rfl ?_
          refine xo_rd (rd_fieldAddr rfl) rfl ?_
          refine xo_rd (rd_load1 rfl (hcA _ 0 _ rfl)) rfl ?_
          refine xo_nil ?_
          refine xq_seq ?_
          refine xc_cond rfl (fun hq1 => ?_) (fun hq1 => ?_)
          refine xc_seq ?_
          refine xc_region ?_
          refine xo_rd (rd_move rfl) rfl ?_
          refine xo_rd (rd_move rfl) rfl ?_
          refine xo_rd (rd_move rfl) rfl ?_
          refine xo_rd (rd_indexAddr rfl rfl (by omega) (by omega)) rfl ?_
          refine xo_rd (rd_fieldAddr rfl) rfl ?_
          refine xo_rd (rd_fieldAddr rfl) rfl ?_
          refine xo_rd (rd_load1 rfl (hcA _ 1 _ rfl)) rfl ?_
          rotate_left
          refine xc_seq ?_
          refine xc_region ?_
          refine xo_rd (rd_move rfl) rfl ?_
          refine xo_rd (rd_move rfl) rfl ?_
          refine xo_rd (rd_move rfl) rfl ?_
          refine xo_rd (rd_indexAddr rfl rfl (by omega) (by omega)) rfl ?_
          refine xo_rd (rd_fieldAddr rfl) rfl ?_
          refine xo_rd (rd_loadA (vs := a.f1.enc) rfl rfl (hcM _)) rfl ?_
          rotate_left
        · refine xo_ef rfl (ef_call rfl (XF.mono (XF.seg [_] x.blks l (xf_leave x hxo a.f1.id)) ?_))
          rintro v L' ⟨rfl, y, hy, hyc, hym, hys, rfl⟩
          refine xo_seg [_] y.blks l ?_
          rw [← hyc]
          rw [hmo] at hym
          focus
            refine xo_rd (rd_assign rfl) rfl ?_
            refine xo_nil ?_
            refine xq_seq ?_
            refine xc_drawM [0, 0, 0, 6, 8, 16, 32, 65, 128, 256, 256, 1023, 4095] [0, 0, 0, 6, 8, 16, 32, 65, 128, 256, 256, 1023, 4095] [] (by kernel_rfl) (by kernel_rfl) (by kernel_rfl) ?_
            refine xm_take 1 (m' := 2) rfl (by kernel_rfl) (by first | exact Sb.refl | exact Sb.nil | (repeat (first | exact Sb.nil | exact Sb.refl | exact Sb.app0 | apply Sb.keep | apply Sb.keepApp | apply Sb.cons | apply Sb.app))) (rd_move rfl) rfl (by kernel_rfl) ?_
            refine xm_take 2 (m' := 6) rfl (by kernel_rfl) (by first | exact Sb.refl | exact Sb.nil | (repeat (first | exact Sb.nil | exact Sb.refl | exact Sb.app0 | apply Sb.keep | apply Sb.keepApp | apply Sb.cons | apply Sb.app))) (rd_move rfl) rfl (by kernel_rfl) ?_
            refine xm_take 3 (m' := 14) rfl (by kernel_rfl) (by first | exact Sb.refl | exact Sb.nil | (repeat (first | exact Sb.nil | exact Sb.refl | exact Sb.app0 | apply Sb.keep | apply Sb.keepApp | apply Sb.cons | apply Sb.app))) (rd_indexAddr rfl rfl (by omega) (by omega)) rfl (by kernel_rfl) ?_
            refine xm_take 4 (m' := 30) rfl (by kernel_rfl) (by first | exact Sb.refl | exact Sb.nil | (repeat (first | exact Sb.nil | exact Sb.refl | exact Sb.app0 | apply Sb.keep | apply Sb.keepApp | apply Sb.cons | apply Sb.app))) (rd_fieldAddr rfl) rfl (by kernel_rfl) ?_
            refine xm_take 5 (m' := 62) rfl (by kernel_rfl) (by first | exact Sb.refl | exact Sb.nil | (repeat (first | exact Sb.nil | exact Sb.refl | exact Sb.app0 | apply Sb.keep | apply Sb.keepApp | apply Sb.cons | apply Sb.app))) (rd_fieldAddr rfl) rfl (by kernel_rfl) ?_
            refine xm_take 6 (m' := 126) rfl (by kernel_rfl) (by first | exact Sb.refl | exact Sb.nil | (repeat (first | exact Sb.nil | exact Sb.refl | exact Sb.app0 | apply Sb.keep | apply Sb.keepApp | apply Sb.cons | apply Sb.app))) (rd_load1 rfl (hcA _ 1 _ rfl)) rfl (by kernel_rfl) ?_
            refine xm_one 0 (m' := 127) rfl (by kernel_rfl) rfl (by kernel_rfl) (ef_rd (rd_loadB rfl Kn.o0 (by rfl)) ?_)
            refine ⟨(by first | exact Sb.refl | exact Sb.nil | (repeat (first | exact Sb.nil | exact Sb.refl | exact Sb.app0 | apply Sb.keep | apply Sb.keepApp | apply Sb.cons | apply Sb.app))), ?_⟩
            refine xm_one 7 (m' := 255) rfl (by kernel_rfl) rfl (by kernel_rfl) (ef_call rfl (XF.mono (xf_rleave l most x.ms pr cr hrr (by intro z hz; simp [hz]) hxo.fit.ids (by omega) a.f1.id) ?_))
            rintro v L' ⟨p', c', lo, rfl, rfl, hro⟩
            refine xmx_seg [_] lo (y.blks ++ l) ?_
            refine ⟨(by first | exact Sb.refl | exact Sb.nil | (repeat (first | exact Sb.nil | exact Sb.refl | exact Sb.app0 | apply Sb.keep | apply Sb.keepApp | apply Sb.cons | apply Sb.app))), ?_⟩
            refine xm_take 8 (m' := 511) rfl (by kernel_rfl) (by first | exact Sb.refl | exact Sb.nil | (repeat (first | exact Sb.nil | exact Sb.refl | exact Sb.app0 | apply Sb.keep | apply Sb.keepApp | apply Sb.cons | apply Sb.app))) (rd_move rfl) rfl (by kernel_rfl) ?_
            refine xm_take 9 (m' := 1023) rfl (by kernel_rfl) (by first | exact Sb.refl | exact Sb.nil | (repeat (first | exact Sb.nil | exact Sb.refl | exact Sb.app0 | apply Sb.keep | apply Sb.keepApp | apply Sb.cons | apply Sb.app))) (rd_extract rfl rfl) rfl (by kernel_rfl) ?_
            refine xm_take 10 (m' := 2047) rfl (by kernel_rfl) (by first | exact Sb.refl | exact Sb.nil | (repeat (first | exact Sb.nil | exact Sb.refl | exact Sb.app0 | apply Sb.keep | apply Sb.keepApp | apply Sb.cons | apply Sb.app))) (rd_extract rfl rfl) rfl (by kernel_rfl) ?_
            refine xm_one 11 (m' := 4095) rfl (by kernel_rfl) rfl (by kernel_rfl) (ef_storeB [] _ rfl rfl (by first | rfl | assumption) rfl rfl rfl ?_)
            refine ⟨(by first | exact Sb.refl | exact Sb.nil | (repeat (first | exact Sb.nil | exact Sb.refl | exact Sb.app0 | apply Sb.keep | apply Sb.keepApp | apply Sb.cons | apply Sb.app))), ?_⟩
            refine xm_take 12 (m' := 8191) rfl (by kernel_rfl) (by first | exact Sb.refl | exact Sb.nil | (repeat (first | exact Sb.nil | exact Sb.refl | exact Sb.app0 | apply Sb.keep | apply Sb.keepApp | apply Sb.cons | apply Sb.app))) (rd_assign rfl) rfl (by kernel_rfl) ?_
            refine xm_done (by kernel_rfl) ?_
          refine xq_perm (L' := (r11, .cells #[.int .i64 most, .slice p' (leaveL x.ms a.f1.id).length c'] 44 (0, 0)) :: (y.blks ++ (lo ++ l))) (by classical exact List.perm_iff_count.2 fun a => by simp only [List.append_eq, List.count_append, List.count_cons, List.count_nil, List.cons_append, List.nil_append, List.flatMap_append, List.flatMap_cons, List.flatMap_nil, List.append_nil]; omega) ?_
          refine xq_joined (y, p', c', lo ++ l, leaveE x.ms a.f1.id) ⟨hy, hym, by dsimp only; rw [hys]; exact hro⟩ (by dsimp only; rw [hys]) (by repeat (first | exact keep_nil | refine keep_cons rfl ?_))
        · have hjn : ∀ L, XF Try.prog W 12 #[.pointer (some ⟨x.c, 0, none⟩), .agg a.f1.enc.toArray] (x.blks ++ L) (fun v L' => v = .int .i64 (joinE most x.ms a.f1) ∧ ∃ y : Ro, y.Ok ∧ y.c = x.c ∧ y.most = x.most ∧ y.ms = joinL most x.ms a.f1 ∧ L' = y.blks ++ L) := fun L => by have h := xf_join (W := W) (L := L) x hxo a.f1; rw [hmo] at h ⊢; exact h
          refine xo_ef rfl (ef_call rfl (XF.mono (XF.seg [_] x.blks l (hjn _)) ?_))
          rintro v L' ⟨rfl, y, hy, hyc, hym, hys, rfl⟩
          refine xo_seg [_] y.blks l ?_
          rw [← hyc]
          rw [hmo] at hym
          focus
            refine xo_rd (rd_assign rfl) rfl ?_
            refine xo_nil ?_
            refine xq_seq ?_
            refine xc_drawM [0, 0, 0, 6, 8, 16, 32, 65, 128, 256, 256, 1023, 4095] [0, 0, 0, 6, 8, 16, 32, 65, 128, 256, 256, 1023, 4095] [] (by kernel_rfl) (by kernel_rfl) (by kernel_rfl) ?_
            refine xm_take 1 (m' := 2) rfl (by kernel_rfl) (by first | exact Sb.refl | exact Sb.nil | (repeat (first | exact Sb.nil | exact Sb.refl | exact Sb.app0 | apply Sb.keep | apply Sb.keepApp | apply Sb.cons | apply Sb.app))) (rd_move rfl) rfl (by kernel_rfl) ?_
            refine xm_take 2 (m' := 6) rfl (by kernel_rfl) (by first | exact Sb.refl | exact Sb.nil | (repeat (first | exact Sb.nil | exact Sb.refl | exact Sb.app0 | apply Sb.keep | apply Sb.keepApp | apply Sb.cons | apply Sb.app))) (rd_move rfl) rfl (by kernel_rfl) ?_
            refine xm_take 3 (m' := 14) rfl (by kernel_rfl) (by first | exact Sb.refl | exact Sb.nil | (repeat (first | exact Sb.nil | exact Sb.refl | exact Sb.app0 | apply Sb.keep | apply Sb.keepApp | apply Sb.cons | apply Sb.app))) (rd_indexAddr rfl rfl (by omega) (by omega)) rfl (by kernel_rfl) ?_
            refine xm_take 4 (m' := 30) rfl (by kernel_rfl) (by first | exact Sb.refl | exact Sb.nil | (repeat (first | exact Sb.nil | exact Sb.refl | exact Sb.app0 | apply Sb.keep | apply Sb.keepApp | apply Sb.cons | apply Sb.app))) (rd_fieldAddr rfl) rfl (by kernel_rfl) ?_
            refine xm_take 5 (m' := 62) rfl (by kernel_rfl) (by first | exact Sb.refl | exact Sb.nil | (repeat (first | exact Sb.nil | exact Sb.refl | exact Sb.app0 | apply Sb.keep | apply Sb.keepApp | apply Sb.cons | apply Sb.app))) (rd_loadA (vs := a.f1.enc) rfl rfl (hcM _)) rfl (by kernel_rfl) ?_
            refine xm_two 0 6 (mi := 63) (mk := 126) rfl rfl (by kernel_rfl) rfl rfl (by kernel_rfl) (by kernel_rfl) (ef_rd (rd_loadB rfl Kn.o0 (by rfl)) ⟨(by first | exact Sb.refl | exact Sb.nil | (repeat (first | exact Sb.nil | exact Sb.refl | exact Sb.app0 | apply Sb.keep | apply Sb.keepApp | apply Sb.cons | apply Sb.app))), ?_⟩) (ef_callV rfl (xf_conv a.f1) ⟨(by first | exact Sb.refl | exact Sb.nil | (repeat (first | exact Sb.nil | exact Sb.refl | exact Sb.app0 | apply Sb.keep | apply Sb.keepApp | apply Sb.cons | apply Sb.app))), ?_⟩)
            refine xm_one 6 (m' := 127) rfl (by kernel_rfl) rfl (by kernel_rfl) (ef_callV rfl (xf_conv a.f1) ?_)
            refine ⟨(by first | exact Sb.refl | exact Sb.nil | (repeat (first | exact Sb.nil | exact Sb.refl | exact Sb.app0 | apply Sb.keep | apply Sb.keepApp | apply Sb.cons | apply Sb.app))), ?_⟩
            refine xm_one 7 (m' := 255) rfl (by kernel_rfl) rfl (by kernel_rfl) (ef_call rfl (XF.mono (xf_rjoin l most x.ms pr cr hrr (by intro z hz; simp [hz]) (by omega) a.f1) ?_))
            rintro v L' ⟨p', c', lo, rfl, rfl, hro⟩
            refine xmx_seg [_] lo (y.blks ++ l) ?_
            refine ⟨(by first | exact Sb.refl | exact Sb.nil | (repeat (first | exact Sb.nil | exact Sb.refl | exact Sb.app0 | apply Sb.keep | apply Sb.keepApp | apply Sb.cons | apply Sb.app))), ?_⟩
            refine xm_take 8 (m' := 511) rfl (by kernel_rfl) (by first | exact Sb.refl | exact Sb.nil | (repeat (first | exact Sb.nil | exact Sb.refl | exact Sb.app0 | apply Sb.keep | apply Sb.keepApp | apply Sb.cons | apply Sb.app))) (rd_move rfl) rfl (by kernel_rfl) ?_
            refine xm_take 9 (m' := 1023) rfl (by kernel_rfl) (by first | exact Sb.refl | exact Sb.nil | (repeat (first | exact Sb.nil | exact Sb.refl | exact Sb.app0 | apply Sb.keep | apply Sb.keepApp | apply Sb.cons | apply Sb.app))) (rd_extract rfl rfl) rfl (by kernel_rfl) ?_
            refine xm_take 10 (m' := 2047) rfl (by kernel_rfl) (by first | exact Sb.refl | exact Sb.nil | (repeat (first | exact Sb.nil | exact Sb.refl | exact Sb.app0 | apply Sb.keep | apply Sb.keepApp | apply Sb.cons | apply Sb.app))) (rd_extract rfl rfl) rfl (by kernel_rfl) ?_
            refine xm_one 11 (m' := 4095) rfl (by kernel_rfl) rfl (by kernel_rfl) (ef_storeB [] _ rfl rfl (by first | rfl | assumption) rfl rfl rfl ?_)
            refine ⟨(by first | exact Sb.refl | exact Sb.nil | (repeat (first | exact Sb.nil | exact Sb.refl | exact Sb.app0 | apply Sb.keep | apply Sb.keepApp | apply Sb.cons | apply Sb.app))), ?_⟩
            refine xm_take 12 (m' := 8191) rfl (by kernel_rfl) (by first | exact Sb.refl | exact Sb.nil | (repeat (first | exact Sb.nil | exact Sb.refl | exact Sb.app0 | apply Sb.keep | apply Sb.keepApp | apply Sb.cons | apply Sb.app))) (rd_assign rfl) rfl (by kernel_rfl) ?_
            refine xm_done (by kernel_rfl) ?_
            rotate_left
            refine xm_one 0 (m' := 127) rfl (by kernel_rfl) rfl (by kernel_rfl) (ef_rd (rd_loadB rfl Kn.o0 (by rfl)) ?_)
            refine ⟨(by first | exact Sb.refl | exact Sb.nil | (repeat (first | exact Sb.nil | exact Sb.refl | exact Sb.app0 | apply Sb.keep | apply Sb.keepApp | apply Sb.cons | apply Sb.app))), ?_⟩
            refine xm_one 7 (m' := 255) rfl (by kernel_rfl) rfl (by kernel_rfl) (ef_call rfl (XF.mono (xf_rjoin l most x.ms pr cr hrr (by intro z hz; simp [hz]) (by omega) a.f1) ?_))
            rintro v L' ⟨p', c', lo, rfl, rfl, hro⟩
            refine xmx_seg [_] lo (y.blks ++ l) ?_
            refine ⟨(by first | exact Sb.refl | exact Sb.nil | (repeat (first | exact Sb.nil | exact Sb.refl | exact Sb.app0 | apply Sb.keep | apply Sb.keepApp | apply Sb.cons | apply Sb.app))), ?_⟩
            refine xm_take 8 (m' := 511) rfl (by kernel_rfl) (by first | exact Sb.refl | exact Sb.nil | (repeat (first | exact Sb.nil | exact Sb.refl | exact Sb.app0 | apply Sb.keep | apply Sb.keepApp | apply Sb.cons | apply Sb.app))) (rd_move rfl) rfl (by kernel_rfl) ?_
            refine xm_take 9 (m' := 1023) rfl (by kernel_rfl) (by first | exact Sb.refl | exact Sb.nil | (repeat (first | exact Sb.nil | exact Sb.refl | exact Sb.app0 | apply Sb.keep | apply Sb.keepApp | apply Sb.cons | apply Sb.app))) (rd_extract rfl rfl) rfl (by kernel_rfl) ?_
            refine xm_take 10 (m' := 2047) rfl (by kernel_rfl) (by first | exact Sb.refl | exact Sb.nil | (repeat (first | exact Sb.nil | exact Sb.refl | exact Sb.app0 | apply Sb.keep | apply Sb.keepApp | apply Sb.cons | apply Sb.app))) (rd_extract rfl rfl) rfl (by kernel_rfl) ?_
            refine xm_one 11 (m' := 4095) rfl (by kernel_rfl) rfl (by kernel_rfl) (ef_storeB [] _ rfl rfl (by first | rfl | assumption) rfl rfl rfl ?_)
            refine ⟨(by first | exact Sb.refl | exact Sb.nil | (repeat (first | exact Sb.nil | exact Sb.refl | exact Sb.app0 | apply Sb.keep | apply Sb.keepApp | apply Sb.cons | apply Sb.app))), ?_⟩
            refine xm_take 12 (m' := 8191) rfl (by kernel_rfl) (by first | exact Sb.refl | exact Sb.nil | (repeat (first | exact Sb.nil | exact Sb.refl | exact Sb.app0 | apply Sb.keep | apply Sb.keepApp | apply Sb.cons | apply Sb.app))) (rd_assign rfl) rfl (by kernel_rfl) ?_
            refine xm_done (by kernel_rfl) ?_
            rotate_left
          · refine xq_perm (L' := (r11, .cells #[.int .i64 most, .slice p' (joinL most x.ms a.f1).length c'] 44 (0, 0)) :: (y.blks ++ (lo ++ l))) (by classical exact List.perm_iff_count.2 fun a => by simp only [List.append_eq, List.count_append, List.count_cons, List.count_nil, List.cons_append, List.nil_append, List.flatMap_append, List.flatMap_cons, List.flatMap_nil, List.append_nil]; omega) ?_
            refine xq_joined (y, p', c', lo ++ l, joinE most x.ms a.f1) ⟨hy, hym, by dsimp only; rw [hys]; exact hro⟩ (by dsimp only; rw [hys]) (by repeat (first | exact keep_nil | refine keep_cons rfl ?_))
          · refine xq_perm (L' := (r11, .cells #[.int .i64 most, .slice p' (joinL most x.ms a.f1).length c'] 44 (0, 0)) :: (y.blks ++ (lo ++ l))) (by classical exact List.perm_iff_count.2 fun a => by simp only [List.append_eq, List.count_append, List.count_cons, List.count_nil, List.cons_append, List.nil_append, List.flatMap_append, List.flatMap_cons, List.flatMap_nil, List.append_nil]; omega) ?_
            refine xq_joined (y, p', c', lo ++ l, joinE most x.ms a.f1) ⟨hy, hym, by dsimp only; rw [hys]; exact hro⟩ (by dsimp only; rw [hys]) (by repeat (first | exact keep_nil | refine keep_cons rfl ?_))
      · rintro ⟨y, py, cy, ly, e⟩ ⟨hy, hym, hry⟩
        dsimp only at hy hym hry ⊢
        have his : ∀ id s, XF Try.prog W 18 #[.pointer (some ⟨y.c, 0, none⟩), .agg #[.int .i64 most, .slice py y.ms.length cy], .int .i64 id, .int .u32 s] ([(r11, .cells #[.int .i64 most, .slice py y.ms.length cy] 44 (0, 0))] ++ (y.blks ++ ly)) (fun v L' => v = .bool true ∧ L' = y.blks ++ ([(r11, .cells #[.int .i64 most, .slice py y.ms.length cy] 44 (0, 0))] ++ ly)) := fun id s => XF.seg [_] y.blks ly (xf_is y hy most py cy (hry.mono fun z hz => List.mem_cons_of_mem _ hz) id s)
        focus
          refine xc_seq ?_
          refine xc_drawML [0, 0, 3, 4, 8, 8, 8, 8, 248, 264, 520, 1280, 2048, 2048, 2048, 2048, 51200, 67584, 133120, 264192, 2048, 2048, 3147776, 4196352, 8390656, 16779264, 34093056, 67110912, 134219776, 335544320, 536870912, 536870912, 536870912, 536870912, 536870912, 26306674688, 34896609280, 69256347648, 137975824384, 282930970624, 550292684800, 1100048498688] [0, 0, 3, 4, 8, 8, 8, 8, 248, 264, 520, 1280, 2048, 2048, 2048, 2048, 51200, 67584, 133120, 264192, 2048, 2048, 3147776, 4196352, 8390656, 16779264, 34093056, 67110912, 134219776, 335544320, 536870912, 536870912, 536870912, 536870912, 536870912, 26306674688, 34896609280, 69256347648, 137975824384, 282930970624, 550292684800, 1100048498688] (by kernel_rfl) (by kernel_rfl) (by kernel_rfl) ?_
          refine xm_take 0 (m' := 1) rfl (by kernel_rfl) (by first | exact Sb.refl | exact Sb.nil | (repeat (first | exact Sb.nil | exact Sb.refl | exact Sb.app0 | apply Sb.keep | apply Sb.keepApp | apply Sb.cons | apply Sb.app))) (rd_move rfl) rfl (by kernel_rfl) ?_
          refine xm_take 1 (m' := 3) rfl (by kernel_rfl) (by first | exact Sb.refl | exact Sb.nil | (repeat (first | exact Sb.nil | exact Sb.refl | exact Sb.app0 | apply Sb.keep | apply Sb.keepApp | apply Sb.cons | apply Sb.app))) (rd_move rfl) rfl (by kernel_rfl) ?_
          refine xm_take 2 (m' := 7) rfl (by kernel_rfl) (by first | exact Sb.refl | exact Sb.nil | (repeat (first | exact Sb.nil | exact Sb.refl | exact Sb.app0 | apply Sb.keep | apply Sb.keepApp | apply Sb.cons | apply Sb.app))) (rd_neq rfl rfl) rfl (by kernel_rfl) ?_
          refine xm_take 3 (m' := 15) rfl (by kernel_rfl) (by first | exact Sb.refl | exact Sb.nil | (repeat (first | exact Sb.nil | exact Sb.refl | exact Sb.app0 | apply Sb.keep | apply Sb.keepApp | apply Sb.cons | apply Sb.app))) (rd_move rfl) rfl (by kernel_rfl) ?_
          refine xm_ndec 95 rfl (fun h => absurd rfl h) (fun _ => ?_)
          refine xm_gtake 4 (m' := 31) rfl (by kernel_rfl) (by first | exact Sb.refl | exact Sb.nil | (repeat (first | exact Sb.nil | exact Sb.refl | exact Sb.app0 | apply Sb.keep | apply Sb.keepApp | apply Sb.cons | apply Sb.app))) rfl rfl (rd_move rfl) rfl (by kernel_rfl) ?_
          refine xm_gtake 5 (m' := 63) rfl (by kernel_rfl) (by first | exact Sb.refl | exact Sb.nil | (repeat (first | exact Sb.nil | exact Sb.refl | exact Sb.app0 | apply Sb.keep | apply Sb.keepApp | apply Sb.cons | apply Sb.app))) rfl rfl (rd_loadB rfl Kn.o0 (by rfl)) rfl (by kernel_rfl) ?_
          refine xm_gtake 6 (m' := 127) rfl (by kernel_rfl) (by first | exact Sb.refl | exact Sb.nil | (repeat (first | exact Sb.nil | exact Sb.refl | exact Sb.app0 | apply Sb.keep | apply Sb.keepApp | apply Sb.cons | apply Sb.app))) rfl rfl (rd_move rfl) rfl (by kernel_rfl) ?_
          refine xm_gtake 7 (m' := 255) rfl (by kernel_rfl) (by first | exact Sb.refl | exact Sb.nil | (repeat (first | exact Sb.nil | exact Sb.refl | exact Sb.app0 | apply Sb.keep | apply Sb.keepApp | apply Sb.cons | apply Sb.app))) rfl rfl (rd_move rfl) rfl (by kernel_rfl) ?_
          refine xm_gone 8 (m' := 511) rfl (by kernel_rfl) rfl rfl rfl (by kernel_rfl) (ef_call rfl (XF.mono (his _ _) ?_))
          rintro v L' ⟨rfl, rfl⟩
          refine xmx_seg [_] y.blks ly ?_
          refine ⟨(by first | exact Sb.refl | exact Sb.nil | (repeat (first | exact Sb.nil | exact Sb.refl | exact Sb.app0 | apply Sb.keep | apply Sb.keepApp | apply Sb.cons | apply Sb.app))), ?_⟩
          refine xm_gtake 9 (m' := 1023) rfl (by kernel_rfl) (by first | exact Sb.refl | exact Sb.nil | (repeat (first | exact Sb.nil | exact Sb.refl | exact Sb.app0 | apply Sb.keep | apply Sb.keepApp | apply Sb.cons | apply Sb.app))) rfl rfl (rd_not rfl) rfl (by kernel_rfl) ?_
          refine xm_take 10 (m' := 2047) rfl (by kernel_rfl) (by first | exact Sb.refl | exact Sb.nil | (repeat (first | exact Sb.nil | exact Sb.refl | exact Sb.app0 | apply Sb.keep | apply Sb.keepApp | apply Sb.cons | apply Sb.app))) (rd_pickf rfl rfl) rfl (by kernel_rfl) ?_
          refine xm_take 11 (m' := 4095) rfl (by kernel_rfl) (by first | exact Sb.refl | exact Sb.nil | (repeat (first | exact Sb.nil | exact Sb.refl | exact Sb.app0 | apply Sb.keep | apply Sb.keepApp | apply Sb.cons | apply Sb.app))) (rd_move rfl) rfl (by kernel_rfl) ?_
          refine xm_gtake 12 (m' := 8191) rfl (by kernel_rfl) (by first | exact Sb.refl | exact Sb.nil | (repeat (first | exact Sb.nil | exact Sb.refl | exact Sb.app0 | apply Sb.keep | apply Sb.keepApp | apply Sb.cons | apply Sb.app))) rfl rfl (rd_move rfl) rfl (by kernel_rfl) ?_
          refine xm_gtake 13 (m' := 16383) rfl (by kernel_rfl) (by first | exact Sb.refl | exact Sb.nil | (repeat (first | exact Sb.nil | exact Sb.refl | exact Sb.app0 | apply Sb.keep | apply Sb.keepApp | apply Sb.cons | apply Sb.app))) rfl rfl (rd_loadB rfl Kn.o0 (by rfl)) rfl (by kernel_rfl) ?_
          refine xm_gtake 14 (m' := 32767) rfl (by kernel_rfl) (by first | exact Sb.refl | exact Sb.nil | (repeat (first | exact Sb.nil | exact Sb.refl | exact Sb.app0 | apply Sb.keep | apply Sb.keepApp | apply Sb.cons | apply Sb.app))) rfl rfl (rd_move rfl) rfl (by kernel_rfl) ?_
          refine xm_gtake 15 (m' := 65535) rfl (by kernel_rfl) (by first | exact Sb.refl | exact Sb.nil | (repeat (first | exact Sb.nil | exact Sb.refl | exact Sb.app0 | apply Sb.keep | apply Sb.keepApp | apply Sb.cons | apply Sb.app))) rfl rfl (rd_move rfl) rfl (by kernel_rfl) ?_
          refine xm_gtake 16 (m' := 131071) rfl (by kernel_rfl) (by first | exact Sb.refl | exact Sb.nil | (repeat (first | exact Sb.nil | exact Sb.refl | exact Sb.app0 | apply Sb.keep | apply Sb.keepApp | apply Sb.cons | apply Sb.app))) rfl rfl (rd_indexAddr rfl rfl (by omega) (by omega)) rfl (by kernel_rfl) ?_
          refine xm_gtake 17 (m' := 262143) rfl (by kernel_rfl) (by first | exact Sb.refl | exact Sb.nil | (repeat (first | exact Sb.nil | exact Sb.refl | exact Sb.app0 | apply Sb.keep | apply Sb.keepApp | apply Sb.cons | apply Sb.app))) rfl rfl (rd_fieldAddr rfl) rfl (by kernel_rfl) ?_
          refine xm_gtake 18 (m' := 524287) rfl (by kernel_rfl) (by first | exact Sb.refl | exact Sb.nil | (repeat (first | exact Sb.nil | exact Sb.refl | exact Sb.app0 | apply Sb.keep | apply Sb.keepApp | apply Sb.cons | apply Sb.app))) rfl rfl (rd_fieldAddr rfl) rfl (by kernel_rfl) ?_
          refine xm_gtake 19 (m' := 1048575) rfl (by kernel_rfl) (by first | exact Sb.refl | exact Sb.nil | (repeat (first | exact Sb.nil | exact Sb.refl | exact Sb.app0 | apply Sb.keep | apply Sb.keepApp | apply Sb.cons | apply Sb.app))) rfl rfl (rd_load1 rfl (hcA _ 1 _ rfl)) rfl (by kernel_rfl) ?_
          refine xm_gtake 20 (m' := 2097151) rfl (by kernel_rfl) (by first | exact Sb.refl | exact Sb.nil | (repeat (first | exact Sb.nil | exact Sb.refl | exact Sb.app0 | apply Sb.keep | apply Sb.keepApp | apply Sb.cons | apply Sb.app))) rfl rfl (rd_move rfl) rfl (by kernel_rfl) ?_
          refine xm_gtake 21 (m' := 4194303) rfl (by kernel_rfl) (by first | exact Sb.refl | exact Sb.nil | (repeat (first | exact Sb.nil | exact Sb.refl | exact Sb.app0 | apply Sb.keep | apply Sb.keepApp | apply Sb.cons | apply Sb.app))) rfl rfl (rd_move rfl) rfl (by kernel_rfl) ?_
          refine xm_gtake 22 (m' := 8388607) rfl (by kernel_rfl) (by first | exact Sb.refl | exact Sb.nil | (repeat (first | exact Sb.nil | exact Sb.refl | exact Sb.app0 | apply Sb.keep | apply Sb.keepApp | apply Sb.cons | apply Sb.app))) rfl rfl (rd_indexAddr rfl rfl (by omega) (by omega)) rfl (by kernel_rfl) ?_
          refine xm_gtake 23 (m' := 16777215) rfl (by kernel_rfl) (by first | exact Sb.refl | exact Sb.nil | (repeat (first | exact Sb.nil | exact Sb.refl | exact Sb.app0 | apply Sb.keep | apply Sb.keepApp | apply Sb.cons | apply Sb.app))) rfl rfl (rd_fieldAddr rfl) rfl (by kernel_rfl) ?_
          refine xm_gtake 24 (m' := 33554431) rfl (by kernel_rfl) (by first | exact Sb.refl | exact Sb.nil | (repeat (first | exact Sb.nil | exact Sb.refl | exact Sb.app0 | apply Sb.keep | apply Sb.keepApp | apply Sb.cons | apply Sb.app))) rfl rfl (rd_fieldAddr rfl) rfl (by kernel_rfl) ?_
          refine xm_gtake 25 (m' := 67108863) rfl (by kernel_rfl) (by first | exact Sb.refl | exact Sb.nil | (repeat (first | exact Sb.nil | exact Sb.refl | exact Sb.app0 | apply Sb.keep | apply Sb.keepApp | apply Sb.cons | apply Sb.app))) rfl rfl (rd_load1 rfl (hcA _ 2 _ rfl)) rfl (by kernel_rfl) ?_
          refine xm_gone 26 (m' := 134217727) rfl (by kernel_rfl) rfl rfl rfl (by kernel_rfl) (ef_call rfl (XF.mono (his _ _) ?_))
          rintro v L' ⟨rfl, rfl⟩
          refine xmx_seg [_] y.blks ly ?_
          refine ⟨(by first | exact Sb.refl | exact Sb.nil | (repeat (first | exact Sb.nil | exact Sb.refl | exact Sb.app0 | apply Sb.keep | apply Sb.keepApp | apply Sb.cons | apply Sb.app))), ?_⟩
          refine xm_gtake 27 (m' := 268435455) rfl (by kernel_rfl) (by first | exact Sb.refl | exact Sb.nil | (repeat (first | exact Sb.nil | exact Sb.refl | exact Sb.app0 | apply Sb.keep | apply Sb.keepApp | apply Sb.cons | apply Sb.app))) rfl rfl (rd_not rfl) rfl (by kernel_rfl) ?_
          refine xm_take 28 (m' := 536870911) rfl (by kernel_rfl) (by first | exact Sb.refl | exact Sb.nil | (repeat (first | exact Sb.nil | exact Sb.refl | exact Sb.app0 | apply Sb.keep | apply Sb.keepApp | apply Sb.cons | apply Sb.app))) (rd_pickf rfl rfl) rfl (by kernel_rfl) ?_
          refine xm_take 29 (m' := 1073741823) rfl (by kernel_rfl) (by first | exact Sb.refl | exact Sb.nil | (repeat (first | exact Sb.nil | exact Sb.refl | exact Sb.app0 | apply Sb.keep | apply Sb.keepApp | apply Sb.cons | apply Sb.app))) (rd_move rfl) rfl (by kernel_rfl) ?_
          refine xm_gtake 30 (m' := 2147483647) rfl (by kernel_rfl) (by first | exact Sb.refl | exact Sb.nil | (repeat (first | exact Sb.nil | exact Sb.refl | exact Sb.app0 | apply Sb.keep | apply Sb.keepApp | apply Sb.cons | apply Sb.app))) rfl rfl (rd_move rfl) rfl (by kernel_rfl) ?_
          refine xm_gtake 31 (m' := 4294967295) rfl (by kernel_rfl) (by first | exact Sb.refl | exact Sb.nil | (repeat (first | exact Sb.nil | exact Sb.refl | exact Sb.app0 | apply Sb.keep | apply Sb.keepApp | apply Sb.cons | apply Sb.app))) rfl rfl (rd_loadB rfl Kn.o0 (by rfl)) rfl (by kernel_rfl) ?_
          refine xm_gtake 32 (m' := 8589934591) rfl (by kernel_rfl) (by first | exact Sb.refl | exact Sb.nil | (repeat (first | exact Sb.nil | exact Sb.refl | exact Sb.app0 | apply Sb.keep | apply Sb.keepApp | apply Sb.cons | apply Sb.app))) rfl rfl (rd_move rfl) rfl (by kernel_rfl) ?_
          refine xm_gtake 33 (m' := 17179869183) rfl (by kernel_rfl) (by first | exact Sb.refl | exact Sb.nil | (repeat (first | exact Sb.nil | exact Sb.refl | exact Sb.app0 | apply Sb.keep | apply Sb.keepApp | apply Sb.cons | apply Sb.app))) rfl rfl (rd_move rfl) rfl (by kernel_rfl) ?_
          refine xm_gtake 34 (m' := 34359738367) rfl (by kernel_rfl) (by first | exact Sb.refl | exact Sb.nil | (repeat (first | exact Sb.nil | exact Sb.refl | exact Sb.app0 | apply Sb.keep | apply Sb.keepApp | apply Sb.cons | apply Sb.app))) rfl rfl (rd_move rfl) rfl (by kernel_rfl) ?_
          refine xm_gtake 35 (m' := 68719476735) rfl (by kernel_rfl) (by first | exact Sb.refl | exact Sb.nil | (repeat (first | exact Sb.nil | exact Sb.refl | exact Sb.app0 | apply Sb.keep | apply Sb.keepApp | apply Sb.cons | apply Sb.app))) rfl rfl (rd_indexAddr rfl rfl (by omega) (by omega)) rfl (by kernel_rfl) ?_
          refine xm_gtake 36 (m' := 137438953471) rfl (by kernel_rfl) (by first | exact Sb.refl | exact Sb.nil | (repeat (first | exact Sb.nil | exact Sb.refl | exact Sb.app0 | apply Sb.keep | apply Sb.keepApp | apply Sb.cons | apply Sb.app))) rfl rfl (rd_fieldAddr rfl) rfl (by kernel_rfl) ?_
          refine xm_gtake 37 (m' := 274877906943) rfl (by kernel_rfl) (by first | exact Sb.refl | exact Sb.nil | (repeat (first | exact Sb.nil | exact Sb.refl | exact Sb.app0 | apply Sb.keep | apply Sb.keepApp | apply Sb.cons | apply Sb.app))) rfl rfl (rd_fieldAddr rfl) rfl (by kernel_rfl) ?_
          refine xm_gtake 38 (m' := 549755813887) rfl (by kernel_rfl) (by first | exact Sb.refl | exact Sb.nil | (repeat (first | exact Sb.nil | exact Sb.refl | exact Sb.app0 | apply Sb.keep | apply Sb.keepApp | apply Sb.cons | apply Sb.app))) rfl rfl (rd_load1 rfl (hcA _ 3 _ rfl)) rfl (by kernel_rfl) ?_
          refine xm_gone 39 (m' := 1099511627775) rfl (by kernel_rfl) rfl rfl rfl (by kernel_rfl) (ef_call rfl (XF.mono (his _ _) ?_))
          rintro v L' ⟨rfl, rfl⟩
          refine xmx_seg [_] y.blks ly ?_
          refine ⟨(by first | exact Sb.refl | exact Sb.nil | (repeat (first | exact Sb.nil | exact Sb.refl | exact Sb.app0 | apply Sb.keep | apply Sb.keepApp | apply Sb.cons | apply Sb.app))), ?_⟩
          refine xm_gtake 40 (m' := 2199023255551) rfl (by kernel_rfl) (by first | exact Sb.refl | exact Sb.nil | (repeat (first | exact Sb.nil | exact Sb.refl | exact Sb.app0 | apply Sb.keep | apply Sb.keepApp | apply Sb.cons | apply Sb.app))) rfl rfl (rd_not rfl) rfl (by kernel_rfl) ?_
          refine xm_take 41 (m' := 4398046511103) rfl (by kernel_rfl) (by first | exact Sb.refl | exact Sb.nil | (repeat (first | exact Sb.nil | exact Sb.refl | exact Sb.app0 | apply Sb.keep | apply Sb.keepApp | apply Sb.cons | apply Sb.app))) (rd_pickf rfl rfl) rfl (by kernel_rfl) ?_
          refine xm_done (by kernel_rfl) ?_
          refine xq_seq ?_
          refine xc_condf rfl ?_
          refine xc_skip ?_
          refine xq_block ?_
          refine xq_seq ?_
          refine xc_region ?_
          refine xo_rd (rd_move rfl) rfl ?_
          refine xo_rd (rd_addn rfl rfl (by omega) (by omega)) rfl ?_
          refine xo_rd (rd_assign rfl) rfl ?_
          refine xo_nil ?_
        exact xq_roundI (⟨i + 1, y, py, cy, ly⟩ : PlS) ⟨by dsimp only; omega, hy, hym, hry⟩ (by dsimp only; omega) rfl (by repeat (first | exact keep_nil | refine keep_cons rfl ?_))
  · skip
    focus
      refine xo_ef rfl (ef_call rfl (XF.mono (xf_new_bad most (by omega)) ?_))
      rintro v L' ⟨rfl, rfl⟩
      refine xo_rd (rd_move rfl) rfl ?_
      refine xo_rd (rd_extract rfl rfl) rfl ?_
      refine xo_rd (rd_extract rfl rfl) rfl ?_
      refine xo_rd (rd_assign rfl) rfl ?_
      refine xo_rd (rd_assign rfl) rfl ?_
      refine xo_nil ?_
      refine xq_seq ?_
      refine xc_seq ?_
      refine xc_region ?_
      refine xo_rd (rd_move rfl) rfl ?_
      refine xo_ef rfl (ef_call rfl (XF.mono (xf_rnew_bad most (by omega)) ?_))
      rintro v L' ⟨rfl, rfl⟩
      refine xo_rd (rd_move rfl) rfl ?_
      refine xo_rd (rd_extract rfl rfl) rfl ?_
      refine xo_rd (rd_extract rfl rfl) rfl ?_
      refine xo_ef rfl (ef_alloc fun r11 => ?_)
      refine xo_ef rfl (ef_storeB [] _ rfl rfl (by first | rfl | assumption) rfl rfl rfl ?_)
      refine xo_rd (rd_assign rfl) rfl ?_
      refine xo_nil ?_
      refine xq_seq ?_
      refine xc_seq ?_
      refine xc_seq ?_
      refine xc_region ?_
      refine xo_rd (rd_move rfl) rfl ?_
      refine xo_rd (rd_move rfl) rfl ?_
      refine xo_rd (rd_neq rfl rfl) rfl ?_
      refine xo_rd (rd_move rfl) rfl ?_
      refine xo_grd rfl rfl (rd_move rfl) rfl ?_
      refine xo_grd rfl rfl (rd_eql rfl rfl) rfl ?_
      refine xo_grd rfl rfl (rd_move rfl) rfl ?_
      refine xo_grd rfl rfl (rd_nenil rfl) rfl ?_
      refine xo_grd rfl rfl (rd_neb rfl rfl) rfl ?_
      refine xo_rd (rd_pickf rfl rfl) rfl ?_
      refine xo_nil ?_
      refine xq_seq ?_
      refine xc_condf rfl ?_
      refine xc_skip ?_
      refine xq_seq ?_
      refine xc_seq ?_
      refine xc_seq ?_
      refine xc_region ?_
      refine xo_rd (rd_assign rfl) rfl ?_
      refine xo_nil ?_
      refine xq_seq ?_
      refine xc_block ?_
    refine xc_sub (L' := []) (List.nil_sublist _) ?_
    refine xc_loopI (ι := Unit) (fun _ => True) (fun _ => 0) (fun _ => []) (fun _ => [(1, .slice p n c), (10, .int .i64 2), (13, .int .i64 0)]) () trivial rfl (by repeat (first | exact keep_nil | refine keep_cons rfl ?_)) ?_
    rintro _ _
    focus
      refine xc_seq ?_
      refine xc_seq ?_
      refine xc_region ?_
      refine xo_rd (rd_move rfl) rfl ?_
      refine xo_rd (rd_move rfl) rfl ?_
      refine xo_rd (rd_len rfl) rfl ?_
      refine xo_rd (rd_lss rfl rfl) rfl ?_
      refine xo_rd (rd_move rfl) rfl ?_
      refine xo_dec 44 rfl (fun h1 => ?_) (fun h1 => ?_)
      refine xo_grd rfl rfl (rd_move rfl) rfl ?_
      refine xo_grd rfl rfl (rd_eql rfl rfl) rfl ?_
      refine xo_rd (rd_pickt rfl rfl) rfl ?_
      refine xo_nil ?_
      refine xq_seq ?_
      refine xc_condf rfl ?_
      refine xc_exit ?_
      refine xq_then_exit ?_
      refine xq_then_exit ?_
      refine xq_block_hit ?_
      refine xq_seq ?_
      refine xc_seq ?_
      refine xc_region ?_
      refine xo_ef rfl (ef_call rfl (XF.mono (xf_works) ?_))
      rintro v L' ⟨rfl, rfl⟩
      refine xo_rd (rd_assign rfl) rfl ?_
      refine xo_nil ?_
      refine xq_seq ?_
      refine xc_ret ?_
      exact xq_ret1 (.inl rfl) Try.results4 rfl (rfl)
      refine xo_gskip rfl rfl rfl rfl ?_
      refine xo_gskip rfl rfl rfl rfl ?_
      refine xo_rd (rd_pickf rfl rfl) rfl ?_
      refine xo_nil ?_
      refine xq_seq ?_
      refine xc_condf rfl ?_
      refine xc_exit ?_
      refine xq_then_exit ?_
      refine xq_then_exit ?_
      refine xq_block_hit ?_
      refine xq_seq ?_
      refine xc_seq ?_
      refine xc_region ?_
      refine xo_ef rfl (ef_call rfl (XF.mono (xf_works) ?_))
      rintro v L' ⟨rfl, rfl⟩
      refine xo_rd (rd_assign rfl) rfl ?_
      refine xo_nil ?_
      refine xq_seq ?_
      refine xc_ret ?_
      exact xq_ret1 (.inl rfl) Try.results4 rfl (rfl)
end Go.Proofs.Ytginfcoaaioaeaa.X
