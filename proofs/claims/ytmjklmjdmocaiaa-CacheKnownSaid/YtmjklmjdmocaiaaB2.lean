/-
  CacheLast: the walk of the law.
-/
import Derived.Test.YtmjklmjdmocaiaaB1
namespace Go.Proofs.Ytmjklmjdmocaiaa.X
open Go Go.RowKit
set_option linter.unusedVariables false
set_option linter.unusedSimpArgs false
structure PtS where
  i : Nat
  y : Ca
structure PtI (size : Int) (ns : List Int) (s : PtS) : Prop where
  i : s.i ≤ ns.length
  fine : s.y.Fine
  last : LastI ns s.i s.y.st
  sz : s.y.st.size = size
structure WtS where
  j : Nat
  ws : List Int
  v : Value
  l : List Blk
structure WtI (size : Int) (ns : List Int) (st : Sta) (s : WtS) : Prop where
  want : WantI ns st s.j s.ws
  o : SlO 1 30 s.v s.ws.length (ints .u16 s.ws) s.l
set_option maxHeartbeats 8000000 in
theorem xf_CacheLast {W : World} (a0 : Int) (p : Option Addr) (n c : Nat) (ns : List Int) (hx : ns.length = n) (hr : Rs W [] p (ints .u16 ns)) :
    XF Try.prog W 5 #[.int .i64 a0, .slice p n c] [] (fun v L' => v = .bool true) := by
  refine xf_enter (args := [_, _]) Try.func5 rfl Try.ntmps5 rfl ?_
  by_cases hs : 1 ≤ a0 ∧ a0 ≤ 1024
  · focus
      refine xc_seq ?_
      refine xc_region ?_
      refine xo_rd (rd_assign rfl) rfl ?_
      refine xo_nil ?_
      refine xq_seq ?_
      refine xc_seq ?_
      refine xc_region ?_
      refine xo_rd (rd_move rfl) rfl ?_
    refine xo_ef rfl (ef_call rfl (XF.mono (xf_new a0 1 hs (by omega)) ?_))
    rintro v L' ⟨x, hxo, rfl, hst, rfl⟩
    focus
      refine xo_rd (rd_move rfl) rfl ?_
      refine xo_rd (rd_extract rfl rfl) rfl ?_
      refine xo_rd (rd_extract rfl rfl) rfl ?_
      refine xo_rd (rd_assign rfl) rfl ?_
      refine xo_rd (rd_assign rfl) rfl ?_
      refine xo_nil ?_
      refine xq_seq ?_
      refine xc_seq ?_
      refine xc_seq ?_
      refine xc_region ?_
      refine xo_rd (rd_move rfl) rfl ?_
      refine xo_rd (rd_neq rfl rfl) rfl ?_
      refine xo_rd (rd_move rfl) rfl ?_
      refine xo_grd rfl rfl (rd_move rfl) rfl ?_
      refine xo_grd rfl rfl (rd_len rfl) rfl ?_
      refine xo_grd rfl rfl (rd_gtr rfl rfl) rfl ?_
      refine xo_rd (rd_pickf rfl rfl) rfl ?_
      refine xo_nil ?_
      refine xq_seq ?_
      refine xc_dec rfl (fun hb1 => ?_) (fun hb1 => ?_)
      refine xc_seq ?_
      refine xc_region ?_
      refine xo_ef rfl (ef_call rfl (XF.mono (xf_works) ?_))
      rintro v L' ⟨rfl, rfl⟩
      refine xo_rd (rd_assign rfl) rfl ?_
      refine xo_nil ?_
      refine xq_seq ?_
      refine xc_ret ?_
      refine xq_then_ret ?_
      exact xq_ret1 (.inl rfl) Try.results5 rfl (rfl)
      refine xc_skip ?_
      refine xq_seq ?_
    have hf : x.Fine := ⟨hxo, by have h1 : x.ps.length = 0 := (by have := congrArg (fun s => s.l.length) hst; simpa [Ca.st] using this); have := hxo.sz; omega⟩
    refine xc_join (ι := Ca) (fun y => y.Fine ∧ LastI ns n y.st ∧ y.st.size = a0) (fun y => y.blks ++ []) (fun y => [(0, .int .i64 a0), (1, .slice p n c), (5, .pointer (some ⟨y.c, 0, none⟩))]) ?_ ?_
    · focus
        refine xc_seq ?_
        refine xc_region ?_
        refine xo_rd (rd_assign rfl) rfl ?_
        refine xo_nil ?_
        refine xq_seq ?_
        refine xc_block ?_
      refine xc_loopI (ι := PtS) (PtI a0 ns) (fun s => n - s.i) (fun s => s.y.blks ++ []) (fun s => [(0, .int .i64 a0), (1, .slice p n c), (5, .pointer (some ⟨s.y.c, 0, none⟩)), (7, .int .i64 s.i)]) ⟨0, x⟩ ⟨Nat.zero_le _, hf, by rw [hst]; exact LastI.start ns a0 1 hs.1, by rw [hst]⟩ rfl (by repeat (first | exact keep_nil | refine keep_cons rfl ?_)) ?_
      rintro ⟨i, y⟩ ⟨hi, hfy, hl, hsz⟩
      dsimp only at hi hfy hl hsz ⊢
      focus
        refine xc_seq ?_
        refine xc_seq ?_
        refine xc_region ?_
        refine xo_rd (rd_move rfl) rfl ?_
        refine xo_rd (rd_move rfl) rfl ?_
        refine xo_rd (rd_len rfl) rfl ?_
        refine xo_rd (rd_lss rfl rfl) rfl ?_
        refine xo_nil ?_
        refine xq_seq ?_
        refine xc_dec rfl (fun hi1 => ?_) (fun hi1 => ?_)
        refine xc_skip ?_
        refine xq_seq ?_
        refine xc_seq ?_
        refine xc_block ?_
        refine xc_region ?_
        refine xo_rd (rd_move rfl) rfl ?_
        refine xo_rd (rd_move rfl) rfl ?_
        refine xo_rd (rd_move rfl) rfl ?_
        rotate_left
        refine xc_exit ?_
        refine xq_then_exit ?_
        refine xq_then_exit ?_
        refine xq_block_hit ?_
        rotate_left
      · obtain ⟨b, o, hp, hc⟩ := hr.int (i := i) (by omega)
        subst hp
        focus
          refine xo_rd (rd_indexAddr rfl rfl (by omega) (by omega)) rfl ?_
          refine xo_rd (rd_load1 rfl hc.nil) rfl ?_
          refine xo_rd (rd_move rfl) rfl ?_
          refine xo_rd (rd_convn rfl (by omega) (by omega)) rfl ?_
          refine xo_ef rfl (ef_slice1 rfl rfl rfl fun r40 => ?_)
        refine xo_ef rfl (ef_call rfl (XF.mono (XF.seg [_] y.blks [] (xf_putr y hfy ns[i] _ 1 1 [(i : Int)] rfl (Rs.fresh (List.Mem.head _)) (by decide))) ?_))
        rintro v L' ⟨rfl, y', hf', hc', hst', rfl⟩
        rw [← hc']
        refine xo_sub (L' := y'.blks ++ []) (by simp) ?_
        focus
          refine xo_nil ?_
          refine xq_block ?_
          refine xq_seq ?_
          refine xc_region ?_
          refine xo_rd (rd_move rfl) rfl ?_
          refine xo_rd (rd_addn rfl rfl (by omega) (by omega)) rfl ?_
          refine xo_rd (rd_assign rfl) rfl ?_
          refine xo_nil ?_
        refine xq_roundI (⟨i + 1, y'⟩ : PtS) ⟨by dsimp only; omega, hf', ?_, by dsimp only; rw [hst']; exact hsz⟩ (by dsimp only; omega) rfl (by repeat (first | exact keep_nil | refine keep_cons rfl ?_))
        dsimp only
        rw [hst']
        exact hl.put (List.getElem?_eq_getElem (by omega))
      · have hin : i = n := by omega
        subst hin
        exact xq_joined y ⟨hfy, hl, hsz⟩ rfl (by repeat (first | exact keep_nil | refine keep_cons rfl ?_))
    · rintro y ⟨hfy, hl, hsz⟩
      focus
        refine xc_seq ?_
        refine xc_region ?_
        refine xo_rd (rd_assign rfl) rfl ?_
        refine xo_nil ?_
        refine xq_seq ?_
        refine xc_seq ?_
        refine xc_seq ?_
        refine xc_region ?_
        refine xo_rd (rd_move rfl) rfl ?_
        refine xo_rd (rd_len rfl) rfl ?_
        refine xo_rd (rd_subn rfl rfl (by omega) (by omega)) rfl ?_
        refine xo_rd (rd_assign rfl) rfl ?_
        refine xo_nil ?_
        refine xq_seq ?_
        refine xc_block ?_
      rw [← hx] at hl
      refine xc_loopI (ι := WtS) (WtI a0 ns y.st) (fun s => s.j) (fun s => y.blks ++ s.l) (fun s => [(0, .int .i64 a0), (1, .slice p n c), (5, .pointer (some ⟨y.c, 0, none⟩)), (8, s.v), (9, .int .i64 ((s.j : Int) - 1))]) ⟨ns.length, [], .slice none 0 0, []⟩ ⟨WantI.start ns _, SlO.nil⟩ rfl (by rw [hx]; repeat (first | exact keep_nil | refine keep_cons rfl ?_)) ?_
      rintro ⟨j, ws, v, l⟩ ⟨hw, hO⟩
      dsimp only at hw hO ⊢
      obtain ⟨q, k, rfl, hO, _⟩ := hO.opn
      have hjle := hw.le
      have hwsl : (ws.length : Int) ≤ 2000 := by
        have h1 := nodup_sub_le hw.nod hw.sub
        rw [← y.ps_n] at h1
        have := hfy.ok.small
        simp only [List.length_map] at h1
        omega
      focus
        refine xc_seq ?_
        refine xc_seq ?_
        refine xc_region ?_
        refine xo_rd (rd_move rfl) rfl ?_
        refine xo_rd (rd_geq rfl rfl) rfl ?_
        refine xo_rd (rd_move rfl) rfl ?_
        refine xo_dec 47 rfl (fun hj1 => ?_) (fun hj1 => ?_)
        refine xo_grd rfl rfl (rd_move rfl) rfl ?_
        refine xo_grd rfl rfl (rd_len rfl) rfl ?_
        refine xo_grd rfl rfl (rd_move rfl) rfl ?_
        refine xo_grd rfl rfl (rd_lss rfl rfl) rfl ?_
        refine xo_rd (rd_pickt rfl rfl) rfl ?_
        refine xo_nil ?_
        refine xq_seq ?_
        refine xc_dec rfl (fun hj2 => ?_) (fun hj2 => ?_)
        refine xc_skip ?_
        refine xq_seq ?_
        refine xc_seq ?_
        refine xc_block ?_
        refine xc_seq ?_
        refine xc_region ?_
        refine xo_rd (rd_assign rfl) rfl ?_
        refine xo_nil ?_
        refine xq_seq ?_
        refine xc_seq ?_
        refine xc_seq ?_
        refine xc_region ?_
        refine xo_rd (rd_assign rfl) rfl ?_
        refine xo_nil ?_
        refine xq_seq ?_
        refine xc_block ?_
        rotate_left
        refine xc_exit ?_
        refine xq_then_exit ?_
        refine xq_then_exit ?_
        refine xq_block_hit ?_
        refine xq_seq ?_
        refine xc_seq ?_
        refine xc_region ?_
        refine xo_rd (rd_move rfl) rfl ?_
        rotate_left
        refine xo_gskip rfl rfl rfl rfl ?_
        refine xo_gskip rfl rfl rfl rfl ?_
        refine xo_gskip rfl rfl rfl rfl ?_
        refine xo_gskip rfl rfl rfl rfl ?_
        refine xo_rd (rd_pickf rfl rfl) rfl ?_
        refine xo_nil ?_
        refine xq_seq ?_
        refine xc_condf rfl ?_
        refine xc_exit ?_
        refine xq_then_exit ?_
        refine xq_then_exit ?_
        refine xq_block_hit ?_
        refine xq_seq ?_
        refine xc_seq ?_
        refine xc_region ?_
        refine xo_rd (rd_move rfl) rfl ?_
        rotate_left
      · obtain ⟨j', rfl⟩ : ∃ j', j = j' + 1 := ⟨j - 1, by omega⟩
        have hjx : j' < ns.length := by omega
        have hgx : ns[j']? = some ns[j'] := List.getElem?_eq_getElem hjx
        obtain ⟨b0, o0, hp, hc⟩ := hr.int hjx
        subst hp
        have e9 : (((j' + 1 : Nat) : Int) - 1) = (j' : Int) := by omega
        rw [e9]
        generalize hxx : ns[j'] = x0 at *
        refine xc_loopI (ι := Nat × Bool) (fun s => s.1 ≤ ws.length ∧ s.2 = decide (x0 ∈ ws.take s.1)) (fun s => ws.length - s.1) (fun _ => y.blks ++ l) (fun s => [(0, .int .i64 a0), (1, .slice (some ⟨b0, o0, none⟩) n c), (5, .pointer (some ⟨y.c, 0, none⟩)), (8, .slice q ws.length k), (9, .int .i64 j'), (10, .bool s.2), (11, .int .i64 s.1)]) (0, false) ⟨Nat.zero_le _, by simp⟩ rfl (by repeat (first | exact keep_nil | refine keep_cons rfl ?_)) ?_
        rintro ⟨i, th⟩ ⟨hi, hth⟩
        dsimp only at hi hth ⊢
        focus
          refine xc_seq ?_
          refine xc_seq ?_
          refine xc_region ?_
          refine xo_rd (rd_move rfl) rfl ?_
          refine xo_rd (rd_move rfl) rfl ?_
          refine xo_rd (rd_len rfl) rfl ?_
          refine xo_rd (rd_lss rfl rfl) rfl ?_
          refine xo_nil ?_
          refine xq_seq ?_
          refine xc_dec rfl (fun hi1 => ?_) (fun hi1 => ?_)
          refine xc_skip ?_
          refine xq_seq ?_
          refine xc_seq ?_
          refine xc_block ?_
          refine xc_drawML [0, 1, 2, 2, 14, 18, 2, 2, 194, 258, 546, 1026, 4095] [0, 1, 2, 2, 14, 18, 2, 2, 194, 258, 546, 1026, 4095] (by kernel_rfl) (by kernel_rfl) (by kernel_rfl) ?_
          refine xm_take 0 (m' := 1) rfl (by kernel_rfl) (by first | exact Sb.refl | exact Sb.nil | (repeat (first | exact Sb.nil | exact Sb.refl | exact Sb.app0 | apply Sb.keep | apply Sb.keepApp | apply Sb.cons | apply Sb.app))) (rd_move rfl) rfl (by kernel_rfl) ?_
          refine xm_take 1 (m' := 3) rfl (by kernel_rfl) (by first | exact Sb.refl | exact Sb.nil | (repeat (first | exact Sb.nil | exact Sb.refl | exact Sb.app0 | apply Sb.keep | apply Sb.keepApp | apply Sb.cons | apply Sb.app))) (rd_move rfl) rfl (by kernel_rfl) ?_
          refine xm_split 62 rfl (fun hi2 => ?_) (fun hi2 => ?_)
          refine xm_gskip 2 (m' := 7) rfl (by kernel_rfl) (by first | exact Sb.refl | exact Sb.nil | (repeat (first | exact Sb.nil | exact Sb.refl | exact Sb.app0 | apply Sb.keep | apply Sb.keepApp | apply Sb.cons | apply Sb.app))) rfl rfl rfl rfl (by kernel_rfl) ?_
          refine xm_gskip 3 (m' := 15) rfl (by kernel_rfl) (by first | exact Sb.refl | exact Sb.nil | (repeat (first | exact Sb.nil | exact Sb.refl | exact Sb.app0 | apply Sb.keep | apply Sb.keepApp | apply Sb.cons | apply Sb.app))) rfl rfl rfl rfl (by kernel_rfl) ?_
          refine xm_gskip 4 (m' := 31) rfl (by kernel_rfl) (by first | exact Sb.refl | exact Sb.nil | (repeat (first | exact Sb.nil | exact Sb.refl | exact Sb.app0 | apply Sb.keep | apply Sb.keepApp | apply Sb.cons | apply Sb.app))) rfl rfl rfl rfl (by kernel_rfl) ?_
          refine xm_gskip 5 (m' := 63) rfl (by kernel_rfl) (by first | exact Sb.refl | exact Sb.nil | (repeat (first | exact Sb.nil | exact Sb.refl | exact Sb.app0 | apply Sb.keep | apply Sb.keepApp | apply Sb.cons | apply Sb.app))) rfl rfl rfl rfl (by kernel_rfl) ?_
          refine xm_gskip 6 (m' := 127) rfl (by kernel_rfl) (by first | exact Sb.refl | exact Sb.nil | (repeat (first | exact Sb.nil | exact Sb.refl | exact Sb.app0 | apply Sb.keep | apply Sb.keepApp | apply Sb.cons | apply Sb.app))) rfl rfl rfl rfl (by kernel_rfl) ?_
          refine xm_gskip 7 (m' := 255) rfl (by kernel_rfl) (by first | exact Sb.refl | exact Sb.nil | (repeat (first | exact Sb.nil | exact Sb.refl | exact Sb.app0 | apply Sb.keep | apply Sb.keepApp | apply Sb.cons | apply Sb.app))) rfl rfl rfl rfl (by kernel_rfl) ?_
          refine xm_gskip 8 (m' := 511) rfl (by kernel_rfl) (by first | exact Sb.refl | exact Sb.nil | (repeat (first | exact Sb.nil | exact Sb.refl | exact Sb.app0 | apply Sb.keep | apply Sb.keepApp | apply Sb.cons | apply Sb.app))) rfl rfl rfl rfl (by kernel_rfl) ?_
          refine xm_gskip 9 (m' := 1023) rfl (by kernel_rfl) (by first | exact Sb.refl | exact Sb.nil | (repeat (first | exact Sb.nil | exact Sb.refl | exact Sb.app0 | apply Sb.keep | apply Sb.keepApp | apply Sb.cons | apply Sb.app))) rfl rfl rfl rfl (by kernel_rfl) ?_
          refine xm_gskip 10 (m' := 2047) rfl (by kernel_rfl) (by first | exact Sb.refl | exact Sb.nil | (repeat (first | exact Sb.nil | exact Sb.refl | exact Sb.app0 | apply Sb.keep | apply Sb.keepApp | apply Sb.cons | apply Sb.app))) rfl rfl rfl rfl (by kernel_rfl) ?_
          refine xm_take 11 (m' := 4095) rfl (by kernel_rfl) (by first | exact Sb.refl | exact Sb.nil | (repeat (first | exact Sb.nil | exact Sb.refl | exact Sb.app0 | apply Sb.keep | apply Sb.keepApp | apply Sb.cons | apply Sb.app))) (rd_pickt rfl rfl) rfl (by kernel_rfl) ?_
          refine xm_take 12 (m' := 8191) rfl (by kernel_rfl) (by first | exact Sb.refl | exact Sb.nil | (repeat (first | exact Sb.nil | exact Sb.refl | exact Sb.app0 | apply Sb.keep | apply Sb.keepApp | apply Sb.cons | apply Sb.app))) (rd_assign rfl) rfl (by kernel_rfl) ?_
          refine xm_done (by kernel_rfl) ?_
          refine xq_block ?_
          refine xq_seq ?_
          refine xc_region ?_
          refine xo_rd (rd_move rfl) rfl ?_
          refine xo_rd (rd_addn rfl rfl (by omega) (by omega)) rfl ?_
          refine xo_rd (rd_assign rfl) rfl ?_
          refine xo_nil ?_
          rotate_left
          refine xm_gtake 2 (m' := 7) rfl (by kernel_rfl) (by first | exact Sb.refl | exact Sb.nil | (repeat (first | exact Sb.nil | exact Sb.refl | exact Sb.app0 | apply Sb.keep | apply Sb.keepApp | apply Sb.cons | apply Sb.app))) rfl rfl (rd_move rfl) rfl (by kernel_rfl) ?_
          refine xm_gtake 3 (m' := 15) rfl (by kernel_rfl) (by first | exact Sb.refl | exact Sb.nil | (repeat (first | exact Sb.nil | exact Sb.refl | exact Sb.app0 | apply Sb.keep | apply Sb.keepApp | apply Sb.cons | apply Sb.app))) rfl rfl (rd_move rfl) rfl (by kernel_rfl) ?_
          refine xm_gtake 6 (m' := 79) rfl (by kernel_rfl) (by first | exact Sb.refl | exact Sb.nil | (repeat (first | exact Sb.nil | exact Sb.refl | exact Sb.app0 | apply Sb.keep | apply Sb.keepApp | apply Sb.cons | apply Sb.app))) rfl rfl (rd_move rfl) rfl (by kernel_rfl) ?_
          refine xm_gtake 7 (m' := 207) rfl (by kernel_rfl) (by first | exact Sb.refl | exact Sb.nil | (repeat (first | exact Sb.nil | exact Sb.refl | exact Sb.app0 | apply Sb.keep | apply Sb.keepApp | apply Sb.cons | apply Sb.app))) rfl rfl (rd_move rfl) rfl (by kernel_rfl) ?_
          refine xm_gtake 8 (m' := 463) rfl (by kernel_rfl) (by first | exact Sb.refl | exact Sb.nil | (repeat (first | exact Sb.nil | exact Sb.refl | exact Sb.app0 | apply Sb.keep | apply Sb.keepApp | apply Sb.cons | apply Sb.app))) rfl rfl (rd_indexAddr rfl rfl (by omega) (by omega)) rfl (by kernel_rfl) ?_
          refine xm_gtake 9 (m' := 975) rfl (by kernel_rfl) (by first | exact Sb.refl | exact Sb.nil | (repeat (first | exact Sb.nil | exact Sb.refl | exact Sb.app0 | apply Sb.keep | apply Sb.keepApp | apply Sb.cons | apply Sb.app))) rfl rfl (rd_load1 rfl hc.nil) rfl (by kernel_rfl) ?_
          rotate_left
          refine xc_exit ?_
          refine xq_then_exit ?_
          refine xq_then_exit ?_
          rotate_left
        · refine xq_roundI (i + 1, true) ⟨by dsimp only; omega, ?_⟩ (by dsimp only; omega) rfl (by repeat (first | exact keep_nil | refine keep_cons rfl ?_))
          dsimp only
          subst hi2
          rw [List.take_add_one, eq_comm, decide_eq_true_iff]
          exact List.mem_append_left _ (of_decide_eq_true hth.symm)
        · obtain ⟨b1, o1, hq, hc1⟩ := (hO.rs (W := W) (L := y.blks ++ l) (by intro z hz; simp [hz])).int (i := i) (by omega)
          subst hq
          subst hi2
          have hno : x0 ∉ ws.take i := of_decide_eq_false hth.symm
          focus
            refine xm_gtake 4 (m' := 991) rfl (by kernel_rfl) (by first | exact Sb.refl | exact Sb.nil | (repeat (first | exact Sb.nil | exact Sb.refl | exact Sb.app0 | apply Sb.keep | apply Sb.keepApp | apply Sb.cons | apply Sb.app))) rfl rfl (rd_indexAddr rfl rfl (by omega) (by omega)) rfl (by kernel_rfl) ?_
            refine xm_gtake 5 (m' := 1023) rfl (by kernel_rfl) (by first | exact Sb.refl | exact Sb.nil | (repeat (first | exact Sb.nil | exact Sb.refl | exact Sb.app0 | apply Sb.keep | apply Sb.keepApp | apply Sb.cons | apply Sb.app))) rfl rfl (rd_load1 rfl hc1) rfl (by kernel_rfl) ?_
            refine xm_gtake 10 (m' := 2047) rfl (by kernel_rfl) (by first | exact Sb.refl | exact Sb.nil | (repeat (first | exact Sb.nil | exact Sb.refl | exact Sb.app0 | apply Sb.keep | apply Sb.keepApp | apply Sb.cons | apply Sb.app))) rfl rfl (rd_eql rfl rfl) rfl (by kernel_rfl) ?_
            refine xm_take 11 (m' := 4095) rfl (by kernel_rfl) (by first | exact Sb.refl | exact Sb.nil | (repeat (first | exact Sb.nil | exact Sb.refl | exact Sb.app0 | apply Sb.keep | apply Sb.keepApp | apply Sb.cons | apply Sb.app))) (rd_pickf rfl rfl) rfl (by kernel_rfl) ?_
            refine xm_take 12 (m' := 8191) rfl (by kernel_rfl) (by first | exact Sb.refl | exact Sb.nil | (repeat (first | exact Sb.nil | exact Sb.refl | exact Sb.app0 | apply Sb.keep | apply Sb.keepApp | apply Sb.cons | apply Sb.app))) (rd_assign rfl) rfl (by kernel_rfl) ?_
            refine xm_done (by kernel_rfl) ?_
            refine xq_block ?_
            refine xq_seq ?_
            refine xc_region ?_
            refine xo_rd (rd_move rfl) rfl ?_
            refine xo_rd (rd_addn rfl rfl (by omega) (by omega)) rfl ?_
            refine xo_rd (rd_assign rfl) rfl ?_
            refine xo_nil ?_
          refine xq_roundI (i + 1, decide (ws[i] = x0)) ⟨by dsimp only; omega, ?_⟩ (by dsimp only; omega) rfl (by repeat (first | exact keep_nil | refine keep_cons rfl ?_))
          dsimp only
          rw [List.take_add_one, List.getElem?_eq_getElem (by omega)]
          simp only [Option.toList_some, List.mem_append, hno, List.mem_singleton, false_or, eq_comm]
        · have hil : i = ws.length := by omega
          subst hil
          rw [List.take_length] at hth
          focus
            refine xq_block_hit ?_
            refine xq_seq ?_
            refine xc_seq ?_
            refine xc_seq ?_
            refine xc_region ?_
            refine xo_rd (rd_move rfl) rfl ?_
            refine xo_nil ?_
            refine xq_seq ?_
            refine xc_cond rfl (fun ht1 => ?_) (fun ht1 => ?_)
            refine xc_exit ?_
            refine xq_then_exit ?_
            refine xq_block_hit ?_
            refine xq_seq ?_
            refine xc_region ?_
            refine xo_rd (rd_move rfl) rfl ?_
            refine xo_rd (rd_subn rfl rfl (by omega) (by omega)) rfl ?_
            refine xo_rd (rd_assign rfl) rfl ?_
            refine xo_nil ?_
            rotate_left
            refine xc_skip ?_
            refine xq_seq ?_
            refine xc_seq ?_
            refine xc_region ?_
            refine xo_rd (rd_move rfl) rfl ?_
            refine xo_rd (rd_move rfl) rfl ?_
            refine xo_rd (rd_move rfl) rfl ?_
            refine xo_rd (rd_indexAddr rfl rfl (by omega) (by omega)) rfl ?_
            refine xo_rd (rd_load1 rfl hc.nil) rfl ?_
            rotate_left
          · subst ht1
            exact xq_roundI (⟨j', ws, .slice q ws.length k, l⟩ : WtS) ⟨hw.skip hgx (of_decide_eq_true hth.symm), hO⟩ (by dsimp only; omega) rfl (by repeat (first | exact keep_nil | refine keep_cons rfl ?_))
          · subst ht1
            have hnw : x0 ∉ ws := of_decide_eq_false hth.symm
            have hlt : (ws.length : Int) < y.st.size := by rw [hsz]; omega
            obtain ⟨pq, hpq, hbs⟩ := hw.there hl hgx hnw hlt
            have hstep := hw.step hl hgx hnw hlt
            refine xo_ef rfl (ef_call rfl (XF.mono (xf_get_some y hfy.ok x0 pq hpq) ?_))
            rintro v' L' ⟨p2, k2, lb, rfl, hO2, hk2, _, rfl⟩
            obtain ⟨pn, pbs, pa, pt⟩ := pq
            dsimp only at hbs hO2 hk2 ⊢
            subst hbs
            rw [show [(j' : Int)].length = 1 from rfl] at hO2 ⊢
            obtain ⟨b2, o2, rfl, c2⟩ := (hO2.rsl (W := W) (R := y.blks ++ l)).at (j := 0) (Nat.succ_pos _)
            focus
              refine xo_rd (rd_move rfl) rfl ?_
              refine xo_rd (rd_extract rfl rfl) rfl ?_
              refine xo_rd (rd_extract rfl rfl) rfl ?_
              refine xo_rd (rd_assign rfl) rfl ?_
              refine xo_rd (rd_assign rfl) rfl ?_
              refine xo_nil ?_
              refine xq_seq ?_
              refine xc_seq ?_
              refine xc_seq ?_
              refine xc_region ?_
              refine xo_rd (rd_move rfl) rfl ?_
              refine xo_rd (rd_not rfl) rfl ?_
              refine xo_rd (rd_move rfl) rfl ?_
              refine xo_grd rfl rfl (rd_move rfl) rfl ?_
              refine xo_grd rfl rfl (rd_len rfl) rfl ?_
              refine xo_grd rfl rfl (rd_neq rfl rfl) rfl ?_
              refine xo_rd (rd_pickf rfl rfl) rfl ?_
              refine xo_rd (rd_move rfl) rfl ?_
              refine xo_grd rfl rfl (rd_move rfl) rfl ?_
              refine xo_grd rfl rfl (rd_indexAddr rfl rfl (by omega) (by omega)) rfl ?_
              refine xo_grd rfl rfl (rd_load1 rfl (c2 0 _ rfl)) rfl ?_
              refine xo_grd rfl rfl (rd_move rfl) rfl ?_
              refine xo_grd rfl rfl (rd_convn rfl (by omega) (by omega)) rfl ?_
              refine xo_grd rfl rfl (rd_neq rfl rfl) rfl ?_
              refine xo_rd (rd_pickf rfl rfl) rfl ?_
              refine xo_nil ?_
              refine xq_seq ?_
              refine xc_ndec rfl (fun h => absurd rfl h) (fun _ => ?_)
              refine xc_skip ?_
              refine xq_seq ?_
              refine xc_region ?_
              refine xo_rd (rd_move rfl) rfl ?_
              refine xo_rd (rd_move rfl) rfl ?_
              refine xo_rd (rd_move rfl) rfl ?_
              refine xo_rd (rd_indexAddr rfl rfl (by omega) (by omega)) rfl ?_
              refine xo_rd (rd_load1 rfl hc.nil) rfl ?_
              refine xo_ef rfl (ef_slice1 rfl rfl rfl fun r103 => ?_)
            refine xo_ef rfl (ef_append ((r103, _) :: (lb ++ y.blks)) [] l rfl rfl hO (by simp; rfl) (Rs.fresh (List.Mem.head _)) rfl rfl (by decide) (by omega) (by omega) fun v' l' hO' => ?_)
            focus
              refine xo_rd (rd_assign rfl) rfl ?_
              refine xo_nil ?_
              refine xq_block ?_
              refine xq_seq ?_
              refine xc_region ?_
              refine xo_rd (rd_move rfl) rfl ?_
              refine xo_rd (rd_subn rfl rfl (by omega) (by omega)) rfl ?_
              refine xo_rd (rd_assign rfl) rfl ?_
              refine xo_nil ?_
            refine xq_sub (L' := y.blks ++ l') (by simp) ?_
            exact xq_roundI (⟨j', ws ++ [x0], v', l'⟩ : WtS) ⟨hstep, by rw [List.length_append, ints_app]; exact hO'⟩ (by dsimp only; omega) rfl (by repeat (first | exact keep_nil | refine keep_cons rfl ?_))
      · have hfin : y.ps.length = ws.length := by rw [y.ps_len]; exact hw.done hl (.inr (by rw [hsz]; omega))
        focus
          refine xo_ef rfl (ef_call rfl (XF.mono (xf_len y hfy.ok) ?_))
          rintro v L' ⟨rfl, rfl⟩
          refine xo_rd (rd_move rfl) rfl ?_
          refine xo_rd (rd_len rfl) rfl ?_
          refine xo_rd (rd_eql rfl rfl) rfl ?_
          refine xo_rd (rd_move rfl) rfl ?_
          refine xo_dec 110 rfl (fun h1 => ?_) (fun h1 => (by exfalso; omega))
          refine xo_gef rfl rfl rfl (ef_call rfl (XF.mono (xf_works) ?_))
          rintro v L' ⟨rfl, rfl⟩
          refine xo_rd (rd_pickt rfl rfl) rfl ?_
          refine xo_rd (rd_assign rfl) rfl ?_
          refine xo_nil ?_
          refine xq_seq ?_
          refine xc_ret ?_
          exact xq_ret1 (.inl rfl) Try.results5 rfl (rfl)
      · have hfin : y.ps.length = ws.length := by rw [y.ps_len]; exact hw.done hl (.inl (by omega))
        focus
          refine xo_ef rfl (ef_call rfl (XF.mono (xf_len y hfy.ok) ?_))
          rintro v L' ⟨rfl, rfl⟩
          refine xo_rd (rd_move rfl) rfl ?_
          refine xo_rd (rd_len rfl) rfl ?_
          refine xo_rd (rd_eql rfl rfl) rfl ?_
          refine xo_rd (rd_move rfl) rfl ?_
          refine xo_dec 110 rfl (fun h1 => ?_) (fun h1 => (by exfalso; omega))
          refine xo_gef rfl rfl rfl (ef_call rfl (XF.mono (xf_works) ?_))
          rintro v L' ⟨rfl, rfl⟩
          refine xo_rd (rd_pickt rfl rfl) rfl ?_
          refine xo_rd (rd_assign rfl) rfl ?_
          refine xo_nil ?_
          refine xq_seq ?_
          refine xc_ret ?_
          exact xq_ret1 (.inl rfl) Try.results5 rfl (rfl)
  · skip
    focus
      refine xc_seq ?_
      refine xc_region ?_
      refine xo_rd (rd_assign rfl) rfl ?_
      refine xo_nil ?_
      refine xq_seq ?_
      refine xc_seq ?_
      refine xc_region ?_
      refine xo_rd (rd_move rfl) rfl ?_
      refine xo_ef rfl (ef_call rfl (XF.mono (xf_new_bad a0 1 (by omega)) ?_))
      rintro v L' ⟨rfl, rfl⟩
      refine xo_rd (rd_move rfl) rfl ?_
      refine xo_rd (rd_extract rfl rfl) rfl ?_
      refine xo_rd (rd_extract rfl rfl) rfl ?_
      refine xo_rd (rd_assign rfl) rfl ?_
      refine xo_rd (rd_assign rfl) rfl ?_
      refine xo_nil ?_
      refine xq_seq ?_
      refine xc_seq ?_
      refine xc_seq ?_
      refine xc_region ?_
      refine xo_rd (rd_move rfl) rfl ?_
      refine xo_rd (rd_neq rfl rfl) rfl ?_
      refine xo_rd (rd_move rfl) rfl ?_
      refine xo_gskip rfl rfl rfl rfl ?_
      refine xo_gskip rfl rfl rfl rfl ?_
      refine xo_gskip rfl rfl rfl rfl ?_
      refine xo_rd (rd_pickt rfl rfl) rfl ?_
      refine xo_nil ?_
      refine xq_seq ?_
      refine xc_condt rfl ?_
      refine xc_seq ?_
      refine xc_region ?_
      refine xo_ef rfl (ef_call rfl (XF.mono (xf_works) ?_))
      rintro v L' ⟨rfl, rfl⟩
      refine xo_rd (rd_assign rfl) rfl ?_
      refine xo_nil ?_
      refine xq_seq ?_
      refine xc_ret ?_
      refine xq_then_ret ?_
      exact xq_ret1 (.inl rfl) Try.results5 rfl (rfl)
end Go.Proofs.Ytmjklmjdmocaiaa.X
