/-
  CachePlays: the walk of the law.
-/
import Derived.Test.YtmjklmjdmocaiaaB5
namespace Go.Proofs.Ytmjklmjdmocaiaa.X
open Go Go.RowKit
set_option linter.unusedVariables false
set_option linter.unusedSimpArgs false
structure PlS where
  i : Nat
  x : Ca
  y : Rc
structure PlI (W : World) (n : Nat) (s : PlS) : Prop where
  i : s.i ≤ n
  fine : s.x.Fine
  ok : s.y.Ok W
  st : s.x.st = s.y.st
set_option maxHeartbeats 8000000 in
theorem xf_CachePlays {W : World} (a0 a1 : Int) (p : Option Addr) (n c : Nat) (xs : List Act) (hx : xs.length = n) (hr : Rs W [] p (xs.flatMap Act.enc)) (hall : ∀ x, x ∈ xs → x.Good W) (h1 : 0 ≤ a1) (h1' : a1 ≤ 18446744073709551615) (hn : n ≤ 9223372036854775807) :
    XF Try.prog W 4 #[.int .i64 a0, .int .u64 a1, .slice p n c] [] (fun v L' => v = .bool true) := by
  refine xf_enter (args := [_, _, _]) Try.func4 rfl Try.ntmps4 rfl ?_
  focus
    refine xc_seq ?_
    refine xc_region ?_
    refine xo_rd (rd_assign rfl) rfl ?_
    refine xo_nil ?_
    refine xq_seq ?_
    refine xc_seq ?_
    refine xc_seq ?_
    refine xc_region ?_
    refine xo_rd (rd_move rfl) rfl ?_
    refine xo_ef rfl (ef_call rfl (XF.mono (xf_few _ _ _ xs _ hx hr hn) ?_))
    rintro v L' ⟨b, hb, rfl, rfl⟩
    refine xo_rd (rd_not rfl) rfl ?_
    refine xo_nil ?_
    refine xq_seq ?_
    refine xc_cond rfl (fun hb1 => ?_) (fun hb1 => ?_)
    refine xc_seq ?_
    refine xc_region ?_
    refine xo_ef rfl (ef_call rfl (XF.mono (xf_works) ?_))
    rintro v L' ⟨rfl, rfl⟩
    refine xo_rd (rd_assign rfl) rfl ?_
    refine xo_nil ?_
    refine xq_seq ?_
    refine xc_ret ?_
    refine xq_then_ret ?_
    exact xq_ret1 (.inl rfl) Try.results4 rfl (rfl)
    refine xc_skip ?_
    refine xq_seq ?_
    refine xc_seq ?_
    refine xc_region ?_
    refine xo_rd (rd_move rfl) rfl ?_
    refine xo_rd (rd_move rfl) rfl ?_
  have hfew := hb (by simpa using hb1)
  have hn60 : n ≤ 60 := by have := hfew.2; omega
  by_cases hs : 1 ≤ a0 ∧ a0 ≤ 1024
  · refine xo_ef rfl (ef_call rfl (XF.mono (xf_new a0 a1 hs ⟨h1, h1'⟩) ?_))
    rintro v L' ⟨x, hxo, rfl, hst, rfl⟩
    have hf : x.Fine := ⟨hxo, by have h1 : x.ps.length = 0 := (by have := congrArg (fun s => s.l.length) hst; simpa [Ca.st] using this); have := hxo.sz; omega⟩
    focus
      refine xo_rd (rd_move rfl) rfl ?_
      refine xo_rd (rd_extract rfl rfl) rfl ?_
      refine xo_rd (rd_extract rfl rfl) rfl ?_
      refine xo_rd (rd_assign rfl) rfl ?_
      refine xo_rd (rd_assign rfl) rfl ?_
      refine xo_nil ?_
      refine xq_seq ?_
      refine xc_seq ?_
      refine xc_region ?_
      refine xo_rd (rd_move rfl) rfl ?_
      refine xo_rd (rd_move rfl) rfl ?_
      refine xo_ef rfl (ef_call rfl (XF.mono (xf_rnew a0 a1 hs) ?_))
      rintro v L' ⟨rfl, rfl⟩
      refine xo_rd (rd_move rfl) rfl ?_
      refine xo_rd (rd_extract rfl rfl) rfl ?_
      refine xo_rd (rd_extract rfl rfl) rfl ?_
      refine xo_ef rfl (ef_alloc fun r9 => ?_)
      refine xo_ef rfl (ef_storeB [] _ rfl rfl (by first | rfl | assumption) rfl rfl rfl ?_)
      refine xo_rd (rd_assign rfl) rfl ?_
      refine xo_nil ?_
      refine xq_seq ?_
      refine xc_seq ?_
      refine xc_seq ?_
      refine xc_region ?_
      refine xo_rd (rd_move rfl) rfl ?_
      refine xo_rd (rd_move rfl) rfl ?_
      refine xo_rd (rd_neq rfl rfl) rfl ?_
      refine xo_rd (rd_move rfl) rfl ?_
      refine xo_grd rfl rfl (rd_move rfl) rfl ?_
      refine xo_grd rfl rfl (rd_eql rfl rfl) rfl ?_
      refine xo_grd rfl rfl (rd_move rfl) rfl ?_
      refine xo_grd rfl rfl (rd_nenil rfl) rfl ?_
      refine xo_grd rfl rfl (rd_neb rfl rfl) rfl ?_
      refine xo_rd (rd_pickf rfl rfl) rfl ?_
      refine xo_nil ?_
      refine xq_seq ?_
      refine xc_condf rfl ?_
      refine xc_skip ?_
      refine xq_seq ?_
      refine xc_seq ?_
      refine xc_seq ?_
      refine xc_region ?_
      refine xo_rd (rd_assign rfl) rfl ?_
      refine xo_nil ?_
      refine xq_seq ?_
      refine xc_block ?_
    refine xc_loopI (ι := PlS) (PlI W n) (fun s => n - s.i) (fun s => (r9, .cells s.y.cells.toArray 43 (0, 0)) :: (s.x.blks ++ s.y.l)) (fun s => [(2, .slice p n c), (7, .pointer (some ⟨s.x.c, 0, none⟩)), (8, .int .i64 0), (9, .pointer (some ⟨r9, 0, none⟩)), (11, .int .i64 s.i)]) ⟨0, x, ⟨a0, a1, [], none, 0, []⟩⟩ ⟨Nat.zero_le _, hf, ⟨Rs.nil, (fun _ h => by cases h), Nat.zero_le _, ⟨h1, h1'⟩, hs, List.nodup_nil⟩, hst⟩ rfl (by repeat (first | exact keep_nil | refine keep_cons rfl ?_)) ?_
    rintro ⟨i, x, y⟩ ⟨hi, hfx, hoy, hste⟩
    dsimp only at hi hfx hoy hste ⊢
    focus
      refine xc_seq ?_
      refine xc_seq ?_
      refine xc_region ?_
      refine xo_rd (rd_move rfl) rfl ?_
      refine xo_rd (rd_move rfl) rfl ?_
      refine xo_rd (rd_len rfl) rfl ?_
      refine xo_rd (rd_lss rfl rfl) rfl ?_
      refine xo_rd (rd_move rfl) rfl ?_
      refine xo_dec 50 rfl (fun hi1 => ?_) (fun hi1 => ?_)
      refine xo_grd rfl rfl (rd_move rfl) rfl ?_
      refine xo_grd rfl rfl (rd_eql rfl rfl) rfl ?_
      refine xo_rd (rd_pickt rfl rfl) rfl ?_
      refine xo_nil ?_
      refine xq_seq ?_
      refine xc_condt rfl ?_
      refine xc_skip ?_
      refine xq_seq ?_
      refine xc_seq ?_
      refine xc_block ?_
      refine xc_seq ?_
      refine xc_region ?_
      refine xo_rd (rd_move rfl) rfl ?_
      refine xo_rd (rd_move rfl) rfl ?_
      rotate_left
      refine xo_gskip rfl rfl rfl rfl ?_
      refine xo_gskip rfl rfl rfl rfl ?_
      refine xo_rd (rd_pickf rfl rfl) rfl ?_
      refine xo_nil ?_
      refine xq_seq ?_
      refine xc_condf rfl ?_
      refine xc_exit ?_
      refine xq_then_exit ?_
      refine xq_then_exit ?_
      refine xq_block_hit ?_
      refine xq_seq ?_
      refine xc_seq ?_
      refine xc_region ?_
      refine xo_ef rfl (ef_call rfl (XF.mono (xf_works) ?_))
      rintro v L' ⟨rfl, rfl⟩
      refine xo_rd (rd_assign rfl) rfl ?_
      refine xo_nil ?_
      refine xq_seq ?_
      refine xc_ret ?_
      exact xq_ret1 (.inl rfl) Try.results4 rfl (rfl)
    · have hin : i < xs.length := by omega
      obtain ⟨b0, o0, hp, hc⟩ := hr.rows Act.len (by decide) (by omega)
      subst hp
      have hg := hall xs[i] (List.getElem_mem _)
      have hfi := hfew.1 xs[i] (List.getElem_mem _)
      obtain ⟨g0, g1, g2, g3, g4⟩ := hg
      rw [inK_u64] at g3
      have hci := hc i hin
      generalize xs[i] = a at *
      have hcA : ∀ (A : List Blk) (j : Nat) (u : Value), a.enc[j]? = some u → Cl W A b0 (o0 + i * 5 + j) u := fun A j u hj => (hci j u hj).nil
      focus
        refine xo_rd (rd_indexAddr rfl rfl (by omega) (by omega)) rfl ?_
        refine xo_rd (rd_loadA (vs := a.enc) rfl rfl (hcA _)) rfl ?_
        refine xo_ef rfl (ef_alloc fun r12 => ?_)
        refine xo_ef rfl (ef_storeB [] _ rfl rfl (by first | rfl | assumption) rfl rfl rfl ?_)
        refine xo_nil ?_
        refine xq_seq ?_
      refine xc_join (ι := Ca × Rc) (fun s => s.1.Fine ∧ s.2.Ok W ∧ s.1.st = s.2.st) (fun s => (r9, .cells s.2.cells.toArray 43 (0, 0)) :: (s.1.blks ++ s.2.l)) (fun s => [(2, .slice (some ⟨b0, o0, none⟩) n c), (7, .pointer (some ⟨s.1.c, 0, none⟩)), (8, .int .i64 0), (9, .pointer (some ⟨r9, 0, none⟩)), (11, .int .i64 i)]) ?_ ?_
      · skip
        have hfit : (y.rows.length : Int) ≤ y.size := by
          have e1 : x.size = y.size := congrArg Sta.size hste
          have e2 : x.ps.length = y.rows.length := by have := congrArg (fun s => s.l.length) hste; simpa [Ca.st, Rc.st] using this
          rw [← e1, ← e2]; exact hfx.fit
        have r2 : Rs W [] a.f2.p (ints .u8 a.f2.l) := by rw [← ints_flat]; exact g2.rs
        have r4 : Rs W [] a.f4.p (ints .u16 a.f4.l) := by rw [← ints_flat]; exact g4.rs
        focus
          refine xc_seq ?_
          refine xc_region ?_
          refine xo_rd (rd_fieldAddr rfl) rfl ?_
          refine xo_rd (rd_load1 rfl (Cl.o0 rfl)) rfl ?_
          refine xo_ef rfl (ef_call rfl (XF.mono (xf_pick _ 4 (by decide) (by decide)) ?_))
          rintro v L' ⟨rfl, rfl⟩
          refine xo_nil ?_
          refine xq_seq ?_
          refine xc_block ?_
          refine xc_seq ?_
          refine xc_region ?_
          refine xo_rd (rd_eql rfl rfl) rfl ?_
          refine xo_rd (rd_assign rfl) rfl ?_
          refine xo_nil ?_
          refine xq_seq ?_
          refine xc_dec rfl (fun hq1 => ?_) (fun hq1 => ?_)
          refine xc_seq ?_
          refine xc_region ?_
          refine xo_rd (rd_move rfl) rfl ?_
          refine xo_rd (rd_fieldAddr rfl) rfl ?_
          refine xo_rd (rd_load1 rfl (Cl.o0 rfl)) rfl ?_
          rotate_left
          refine xc_seq ?_
          refine xc_region ?_
          refine xo_rd (rd_eql rfl rfl) rfl ?_
          refine xo_rd (rd_assign rfl) rfl ?_
          refine xo_nil ?_
          refine xq_seq ?_
          refine xc_dec rfl (fun hq2 => ?_) (fun hq2 => ?_)
          refine xc_seq ?_
          refine xc_region ?_
          refine xo_rd (rd_loadB rfl Kn.o1 (by rfl)) rfl ?_
          refine xo_rd (rd_fieldAddr rfl) rfl ?_
          refine xo_rd (rd_load1 rfl (Cl.o0 rfl)) rfl ?_
          refine xo_rd (rd_fieldAddr rfl) rfl ?_
          refine xo_rd (rd_load1 rfl (Cl.o0 rfl)) rfl ?_
          rotate_left
          refine xc_seq ?_
          refine xc_region ?_
          refine xo_rd (rd_fieldAddr rfl) rfl ?_
          refine xo_rd (rd_load1 rfl (Cl.o0 rfl)) rfl ?_
          rotate_left
        · cases hhas : x.st.has a.f1 with
          | none =>
            refine xo_ef rfl (ef_call rfl (XF.mono (XF.seg [_, _] x.blks y.l (xf_get_none x hfx.ok a.f1 hhas)) ?_))
            rintro v L' ⟨rfl, rfl⟩
            refine xo_seg [_, _] x.blks y.l ?_
            focus
              refine xo_rd (rd_move rfl) rfl ?_
              refine xo_rd (rd_extract rfl rfl) rfl ?_
              refine xo_rd (rd_extract rfl rfl) rfl ?_
              refine xo_rd (rd_assign rfl) rfl ?_
              refine xo_rd (rd_assign rfl) rfl ?_
              refine xo_nil ?_
              refine xq_seq ?_
              refine xc_seq ?_
              refine xc_region ?_
              refine xo_rd (rd_loadB rfl Kn.o1 (by rfl)) rfl ?_
              refine xo_rd (rd_fieldAddr rfl) rfl ?_
              refine xo_rd (rd_load1 rfl (Cl.o0 rfl)) rfl ?_
            refine xo_ef rfl (ef_call rfl (XF.mono (xf_rget y hoy (by intro z hz; simp [hz]) a.f1) ?_))
            rintro v L' ⟨p2, m2, c2, bs, bb, rfl, hrs, hlen, hle, hcase, rfl⟩
            rcases hcase with ⟨_, q, hq, _⟩ | ⟨rfl, _, rfl⟩
            · rw [← hste, hhas] at hq; cases hq
            · skip
              focus
                refine xo_rd (rd_move rfl) rfl ?_
                refine xo_rd (rd_extract rfl rfl) rfl ?_
                refine xo_rd (rd_extract rfl rfl) rfl ?_
                refine xo_rd (rd_assign rfl) rfl ?_
                refine xo_rd (rd_assign rfl) rfl ?_
                refine xo_nil ?_
                refine xq_seq ?_
                refine xc_seq ?_
                refine xc_seq ?_
                refine xc_region ?_
                refine xo_rd (rd_move rfl) rfl ?_
                refine xo_rd (rd_move rfl) rfl ?_
                refine xo_rd (rd_neb rfl rfl) rfl ?_
                refine xo_rd (rd_move rfl) rfl ?_
                refine xo_grd rfl rfl (rd_move rfl) rfl ?_
                refine xo_grd rfl rfl (rd_move rfl) rfl ?_
                refine xo_gef rfl rfl rfl (ef_call rfl (XF.mono (xf_sameT _ _ _ _ _ _ [] [] rfl rfl hlen Rs.nil hrs.nilL (by omega)) ?_))
                rintro v L' ⟨rfl, rfl⟩
                refine xo_grd rfl rfl (rd_not rfl) rfl ?_
                refine xo_rd (rd_pickf rfl rfl) rfl ?_
                refine xo_nil ?_
                refine xq_seq ?_
                refine xc_condf rfl ?_
                refine xc_skip ?_
                refine xq_seq ?_
                refine xc_region ?_
                refine xo_rd (rd_move rfl) rfl ?_
                refine xo_ef rfl (ef_call rfl (XF.mono (xf_spoil (.slice none 0 0) 0 [] [] SlO.nil (by omega)) ?_))
                rintro v L' ⟨rfl, xs', l', hO', rfl⟩
                refine xo_nil ?_
                refine xq_block ?_
              refine xq_sb (M := (r9, .cells y.cells.toArray 43 (0, 0)) :: (x.blks ++ y.l)) (by first | exact Sb.refl | exact Sb.nil | (repeat (first | exact Sb.nil | exact Sb.refl | exact Sb.app0 | apply Sb.keep | apply Sb.keepApp | apply Sb.cons | apply Sb.app))) ?_
              exact xq_joined (x, y) ⟨hfx, hoy, hste⟩ rfl (by repeat (first | exact keep_nil | refine keep_cons rfl ?_))
          | some q =>
            refine xo_ef rfl (ef_call rfl (XF.mono (XF.seg [_, _] x.blks y.l (xf_get_some x hfx.ok a.f1 q hhas)) ?_))
            rintro v L' ⟨p1, k1, lb, rfl, hO1, hk1, hle1, rfl⟩
            refine xo_permT lb (R' := _ :: _ :: (x.blks ++ y.l)) (seg_perm [_, _] x.blks y.l).symm ?_
            refine xo_seg [_, _] lb (x.blks ++ y.l) ?_
            focus
              refine xo_rd (rd_move rfl) rfl ?_
              refine xo_rd (rd_extract rfl rfl) rfl ?_
              refine xo_rd (rd_extract rfl rfl) rfl ?_
              refine xo_rd (rd_assign rfl) rfl ?_
              refine xo_rd (rd_assign rfl) rfl ?_
              refine xo_nil ?_
              refine xq_seq ?_
              refine xc_seq ?_
              refine xc_region ?_
              refine xo_rd (rd_loadB rfl Kn.o1 (by rfl)) rfl ?_
              refine xo_rd (rd_fieldAddr rfl) rfl ?_
              refine xo_rd (rd_load1 rfl (Cl.o0 rfl)) rfl ?_
            refine xo_ef rfl (ef_call rfl (XF.mono (xf_rget y hoy (by intro z hz; simp [hz]) a.f1) ?_))
            rintro v L' ⟨p2, m2, c2, bs, bb, rfl, hrs, hlen, hle, hcase, rfl⟩
            rcases hcase with ⟨rfl, q', hq, hqb⟩ | ⟨_, hq, _⟩
            · rw [← hste, hhas] at hq
              obtain rfl := Option.some.inj hq
              focus
                refine xo_rd (rd_move rfl) rfl ?_
                refine xo_rd (rd_extract rfl rfl) rfl ?_
                refine xo_rd (rd_extract rfl rfl) rfl ?_
                refine xo_rd (rd_assign rfl) rfl ?_
                refine xo_rd (rd_assign rfl) rfl ?_
                refine xo_nil ?_
                refine xq_seq ?_
                refine xc_seq ?_
                refine xc_seq ?_
                refine xc_region ?_
                refine xo_rd (rd_move rfl) rfl ?_
                refine xo_rd (rd_move rfl) rfl ?_
                refine xo_rd (rd_neb rfl rfl) rfl ?_
                refine xo_rd (rd_move rfl) rfl ?_
                refine xo_grd rfl rfl (rd_move rfl) rfl ?_
                refine xo_grd rfl rfl (rd_move rfl) rfl ?_
                refine xo_gef rfl rfl rfl (ef_call rfl (XF.mono (xf_sameT _ _ _ _ _ _ q.bs bs hqb rfl hlen (hO1.rs (by intro z hz; simp [hz])) hrs.nilL (by omega)) ?_))
                rintro v L' ⟨rfl, rfl⟩
                refine xo_grd rfl rfl (rd_not rfl) rfl ?_
                refine xo_rd (rd_pickf rfl rfl) rfl ?_
                refine xo_nil ?_
                refine xq_seq ?_
                refine xc_condf rfl ?_
                refine xc_skip ?_
                refine xq_seq ?_
                refine xc_region ?_
                refine xo_rd (rd_move rfl) rfl ?_
                refine xo_ef rfl (ef_call rfl (XF.mono (XF.seg [_, _] lb _ (xf_spoil _ _ _ lb hO1 (by omega))) ?_))
                rintro v L' ⟨rfl, xs', l', hO', rfl⟩
                refine xo_seg [_, _] l' _ ?_
                refine xo_nil ?_
                refine xq_block ?_
              refine xq_sb (M := (r9, .cells y.cells.toArray 43 (0, 0)) :: (x.blks ++ y.l)) (by first | exact Sb.refl | exact Sb.nil | (repeat (first | exact Sb.nil | exact Sb.refl | exact Sb.app0 | apply Sb.keep | apply Sb.keepApp | apply Sb.cons | apply Sb.app))) ?_
              exact xq_joined (x, y) ⟨hfx, hoy, hste⟩ rfl (by repeat (first | exact keep_nil | refine keep_cons rfl ?_))
            · rw [← hste, hhas] at hq; cases hq
        · refine xo_ef rfl (ef_call rfl (XF.mono (xf_rask y hoy (by intro z hz; simp [hz]) a.f3 g3.1 g3.2 a.f4.p a.f4.n a.f4.c a.f4.l g4.len r4 (by omega)) ?_))
          rintro v L' ⟨y2, os, po, co, lo, rfl, hoy2, hask, hOo, hos, rfl⟩
          refine xo_permT y2.l (R' := _ :: _ :: (lo ++ (x.blks ++ y.l))) (seg_perm lo [_, _] (x.blks ++ y.l)) ?_
          refine xo_seg [_, _] y2.l (lo ++ (x.blks ++ y.l)) ?_
          focus
            refine xo_rd (rd_move rfl) rfl ?_
            refine xo_rd (rd_extract rfl rfl) rfl ?_
            refine xo_rd (rd_extract rfl rfl) rfl ?_
            refine xo_ef rfl (ef_alloc fun r17 => ?_)
            refine xo_ef rfl (ef_storeB [] _ rfl rfl (by first | rfl | assumption) rfl rfl rfl ?_)
            refine xo_rd (rd_assign rfl) rfl ?_
            refine xo_nil ?_
            refine xq_seq ?_
            refine xc_seq ?_
            refine xc_region ?_
            refine xo_rd (rd_loadB rfl Kn.o0 (by rfl)) rfl ?_
            refine xo_ef rfl (ef_storeB [_, _] _ rfl rfl (by first | rfl | assumption) rfl rfl rfl ?_)
            refine xo_nil ?_
            refine xq_seq ?_
            refine xc_seq ?_
            refine xc_region ?_
            refine xo_rd (rd_move rfl) rfl ?_
            refine xo_rd (rd_fieldAddr rfl) rfl ?_
            refine xo_rd (rd_load1 rfl (Cl.o1 rfl)) rfl ?_
            refine xo_rd (rd_fieldAddr rfl) rfl ?_
            refine xo_rd (rd_load1 rfl (Cl.o1 rfl)) rfl ?_
          refine xo_gen3 fun q1 e1 q2 e2 q3 e3 => ?_
          refine xo_ef rfl (ef_call rfl (XF.mono (XF.perm (L' := x.blks ++ (q1 :: q2 :: q3 :: (y2.l ++ (lo ++ y.l)))) (xf_askr x hfx a.f3 g3.1 g3.2 a.f4.p a.f4.n a.f4.c a.f4.l g4.len r4.nilL (by omega)) (by classical exact List.perm_iff_count.2 fun a => by simp only [List.append_eq, List.count_append, List.count_cons, List.count_nil, List.cons_append, List.nil_append, List.flatMap_append, List.flatMap_cons, List.flatMap_nil, List.append_nil]; omega)) ?_))
          rintro v L' ⟨x2, ws, l5, p5, k5, hf2, hd2, ha2, rfl, hO5, hw5, hn5, rfl⟩
          rw [hste, hask, Prod.mk.injEq] at ha2
          focus
            refine xo_rd (rd_move rfl) rfl ?_
          refine xo_ef rfl (ef_call rfl (XF.mono (XF.perm (L' := l5 ++ (ws.flatMap Ow.l ++ (x2.blks ++ (q1 :: q2 :: q3 :: (y2.l ++ (lo ++ y.l)))))) (xf_sameRows p5 po k5 co ws os l5 hO5 hw5 (hOo.rs (by intro z hz; simp [hz])) hos ha2.2.symm hn5) (by classical exact List.perm_iff_count.2 fun a => by simp only [List.append_eq, List.count_append, List.count_cons, List.count_nil, List.cons_append, List.nil_append, List.flatMap_append, List.flatMap_cons, List.flatMap_nil, List.append_nil]; omega)) ?_))
          rintro v L' ⟨rfl, J, rfl⟩
          refine xo_perm (L' := q1 :: q2 :: q3 :: (x2.blks ++ (y2.l ++ (J ++ (lo ++ y.l))))) (by classical exact List.perm_iff_count.2 fun a => by simp only [List.append_eq, List.count_append, List.count_cons, List.count_nil, List.cons_append, List.nil_append, List.flatMap_append, List.flatMap_cons, List.flatMap_nil, List.append_nil]; omega) ?_
          subst e1 e2 e3
          rw [← hd2]
          focus
            refine xo_rd (rd_not rfl) rfl ?_
            refine xo_nil ?_
            refine xq_seq ?_
            refine xc_condf rfl ?_
            refine xc_skip ?_
            refine xq_block ?_
          refine xq_sb (M := (r9, .cells y2.cells.toArray 43 (0, 0)) :: (x2.blks ++ y2.l)) (by first | exact Sb.refl | exact Sb.nil | (repeat (first | exact Sb.nil | exact Sb.refl | exact Sb.app0 | apply Sb.keep | apply Sb.keepApp | apply Sb.cons | apply Sb.app))) ?_
          exact xq_joined (x2, y2) ⟨hf2, hoy2, ha2.1.symm⟩ rfl (by repeat (first | exact keep_nil | refine keep_cons rfl ?_))
        · refine xo_ef rfl (ef_call rfl (XF.mono (xf_own a.f2.p a.f2.n a.f2.c (ints .u8 a.f2.l) (by rw [ints_len, g2.len]; omega) r2.nilL (ints_one _ _) (by omega)) ?_))
          rintro v L' ⟨p1, k1, lo, rfl, hO1, hk1, rfl⟩
          refine xo_seg [_, _] lo (x.blks ++ y.l) ?_
          focus
            refine xo_rd (rd_assign rfl) rfl ?_
            refine xo_nil ?_
            refine xq_seq ?_
            refine xc_seq ?_
            refine xc_region ?_
            refine xo_rd (rd_move rfl) rfl ?_
            refine xo_rd (rd_fieldAddr rfl) rfl ?_
            refine xo_rd (rd_load1 rfl (Cl.o0 rfl)) rfl ?_
            refine xo_rd (rd_move rfl) rfl ?_
          refine xo_ef rfl (ef_call rfl (XF.mono (XF.seg (_ :: _ :: lo) x.blks y.l (xf_putr x hfx a.f1 _ a.f2.n k1 a.f2.l g2.len (hO1.rs (by intro z hz; simp [hz])) (by omega))) ?_))
          rintro v L' ⟨rfl, x2, hf2, hd2, hst2, rfl⟩
          refine xo_seg (_ :: _ :: lo) x2.blks y.l ?_
          rw [← hd2]
          focus
            refine xo_nil ?_
            refine xq_seq ?_
            refine xc_seq ?_
            refine xc_region ?_
            refine xo_rd (rd_move rfl) rfl ?_
          refine xo_ef rfl (ef_call rfl (XF.mono (XF.seg [_, _] lo _ (xf_spoil _ _ _ lo hO1 (by omega))) ?_))
          rintro v L' ⟨rfl, xs', lo', hO', rfl⟩
          refine xo_seg [_, _] lo' _ ?_
          focus
            refine xo_nil ?_
            refine xq_seq ?_
            refine xc_region ?_
            refine xo_rd (rd_loadB rfl Kn.o1 (by rfl)) rfl ?_
            refine xo_rd (rd_fieldAddr rfl) rfl ?_
            refine xo_rd (rd_load1 rfl (Cl.o0 rfl)) rfl ?_
            refine xo_rd (rd_fieldAddr rfl) rfl ?_
            refine xo_rd (rd_load1 rfl (Cl.o0 rfl)) rfl ?_
          refine xo_ef rfl (ef_call rfl (XF.mono (xf_rput y hoy hfit (by intro z hz; simp [hz]) a.f1 a.f2.p a.f2.n a.f2.c a.f2.l g2.len r2 (by omega)) ?_))
          rintro v L' ⟨y2, rfl, hoy2, hsty, rfl⟩
          refine xo_seg [_, _] y2.l _ ?_
          refine xo_permT [_, _] (R' := x2.blks ++ (y2.l ++ (lo' ++ y.l))) (by classical exact List.perm_iff_count.2 fun a => by simp only [List.append_eq, List.count_append, List.count_cons, List.count_nil, List.cons_append, List.nil_append, List.flatMap_append, List.flatMap_cons, List.flatMap_nil, List.append_nil]; omega) ?_
          focus
            refine xo_ef rfl (ef_storeB [_] _ rfl rfl (by first | rfl | assumption) rfl rfl rfl ?_)
            refine xo_nil ?_
            refine xq_block ?_
          refine xq_sb (M := (r9, .cells y2.cells.toArray 43 (0, 0)) :: (x2.blks ++ y2.l)) (by first | exact Sb.refl | exact Sb.nil | (repeat (first | exact Sb.nil | exact Sb.refl | exact Sb.app0 | apply Sb.keep | apply Sb.keepApp | apply Sb.cons | apply Sb.app))) ?_
          exact xq_joined (x2, y2) ⟨hf2, hoy2, by dsimp only; rw [hst2, hsty, hste]⟩ rfl (by repeat (first | exact keep_nil | refine keep_cons rfl ?_))
      · rintro ⟨x', y'⟩ ⟨hfx', hoy', hst'⟩
        dsimp only at hfx' hoy' hst' ⊢
        focus
          refine xc_seq ?_
          refine xc_region ?_
          refine xo_rd (rd_move rfl) rfl ?_
          refine xo_rd (rd_loadB rfl Kn.o0 (by rfl)) rfl ?_
        refine xo_ef rfl (ef_call rfl (XF.mono (XF.seg [_] x'.blks y'.l (xf_is (R := [_] ++ y'.l) x' hfx' y' hoy' (fun z hz => List.mem_cons_of_mem _ hz) hst')) ?_))
        rintro v L' ⟨rfl, rfl⟩
        refine xo_seg [_] x'.blks y'.l ?_
        focus
          refine xo_rd (rd_not rfl) rfl ?_
          refine xo_nil ?_
          refine xq_seq ?_
          refine xc_condf rfl ?_
          refine xc_skip ?_
          refine xq_block ?_
          refine xq_seq ?_
          refine xc_region ?_
          refine xo_rd (rd_move rfl) rfl ?_
          refine xo_rd (rd_addn rfl rfl (by omega) (by omega)) rfl ?_
          refine xo_rd (rd_assign rfl) rfl ?_
          refine xo_nil ?_
        exact xq_roundI (⟨i + 1, x', y'⟩ : PlS) ⟨by dsimp only; omega, hfx', hoy', hst'⟩ (by dsimp only; omega) rfl (by repeat (first | exact keep_nil | refine keep_cons rfl ?_))
  · skip
    focus
      refine xo_ef rfl (ef_call rfl (XF.mono (xf_new_bad a0 a1 (by omega)) ?_))
      rintro v L' ⟨rfl, rfl⟩
      refine xo_rd (rd_move rfl) rfl ?_
      refine xo_rd (rd_extract rfl rfl) rfl ?_
      refine xo_rd (rd_extract rfl rfl) rfl ?_
      refine xo_rd (rd_assign rfl) rfl ?_
      refine xo_rd (rd_assign rfl) rfl ?_
      refine xo_nil ?_
      refine xq_seq ?_
      refine xc_seq ?_
      refine xc_region ?_
      refine xo_rd (rd_move rfl) rfl ?_
      refine xo_rd (rd_move rfl) rfl ?_
      refine xo_ef rfl (ef_call rfl (XF.mono (xf_rnew_bad a0 a1 (by omega)) ?_))
      rintro v L' ⟨rfl, rfl⟩
      refine xo_rd (rd_move rfl) rfl ?_
      refine xo_rd (rd_extract rfl rfl) rfl ?_
      refine xo_rd (rd_extract rfl rfl) rfl ?_
      refine xo_ef rfl (ef_alloc fun r9 => ?_)
      refine xo_ef rfl (ef_storeB [] _ rfl rfl (by first | rfl | assumption) rfl rfl rfl ?_)
      refine xo_rd (rd_assign rfl) rfl ?_
      refine xo_nil ?_
      refine xq_seq ?_
      refine xc_seq ?_
      refine xc_seq ?_
      refine xc_region ?_
      refine xo_rd (rd_move rfl) rfl ?_
      refine xo_rd (rd_move rfl) rfl ?_
      refine xo_rd (rd_neq rfl rfl) rfl ?_
      refine xo_rd (rd_move rfl) rfl ?_
      refine xo_grd rfl rfl (rd_move rfl) rfl ?_
      refine xo_grd rfl rfl (rd_eql rfl rfl) rfl ?_
      refine xo_grd rfl rfl (rd_move rfl) rfl ?_
      refine xo_grd rfl rfl (rd_nenil rfl) rfl ?_
      refine xo_grd rfl rfl (rd_neb rfl rfl) rfl ?_
      refine xo_rd (rd_pickf rfl rfl) rfl ?_
      refine xo_nil ?_
      refine xq_seq ?_
      refine xc_condf rfl ?_
      refine xc_skip ?_
      refine xq_seq ?_
      refine xc_seq ?_
      refine xc_seq ?_
      refine xc_region ?_
      refine xo_rd (rd_assign rfl) rfl ?_
      refine xo_nil ?_
      refine xq_seq ?_
      refine xc_block ?_
    refine xc_sub (L' := []) (List.nil_sublist _) ?_
    refine xc_loopI (ι := Unit) (fun _ => True) (fun _ => 0) (fun _ => []) (fun _ => [(2, .slice p n c), (8, .int .i64 2), (11, .int .i64 0)]) () trivial rfl (by repeat (first | exact keep_nil | refine keep_cons rfl ?_)) ?_
    rintro _ _
    focus
      refine xc_seq ?_
      refine xc_seq ?_
      refine xc_region ?_
      refine xo_rd (rd_move rfl) rfl ?_
      refine xo_rd (rd_move rfl) rfl ?_
      refine xo_rd (rd_len rfl) rfl ?_
      refine xo_rd (rd_lss rfl rfl) rfl ?_
      refine xo_rd (rd_move rfl) rfl ?_
      refine xo_dec 50 rfl (fun h1 => ?_) (fun h1 => ?_)
      refine xo_grd rfl rfl (rd_move rfl) rfl ?_
      refine xo_grd rfl rfl (rd_eql rfl rfl) rfl ?_
      refine xo_rd (rd_pickt rfl rfl) rfl ?_
      refine xo_nil ?_
      refine xq_seq ?_
      refine xc_condf rfl ?_
      refine xc_exit ?_
      refine xq_then_exit ?_
      refine xq_then_exit ?_
      refine xq_block_hit ?_
      refine xq_seq ?_
      refine xc_seq ?_
      refine xc_region ?_
      refine xo_ef rfl (ef_call rfl (XF.mono (xf_works) ?_))
      rintro v L' ⟨rfl, rfl⟩
      refine xo_rd (rd_assign rfl) rfl ?_
      refine xo_nil ?_
      refine xq_seq ?_
      refine xc_ret ?_
      exact xq_ret1 (.inl rfl) Try.results4 rfl (rfl)
      refine xo_gskip rfl rfl rfl rfl ?_
      refine xo_gskip rfl rfl rfl rfl ?_
      refine xo_rd (rd_pickf rfl rfl) rfl ?_
      refine xo_nil ?_
      refine xq_seq ?_
      refine xc_condf rfl ?_
      refine xc_exit ?_
      refine xq_then_exit ?_
      refine xq_then_exit ?_
      refine xq_block_hit ?_
      refine xq_seq ?_
      refine xc_seq ?_
      refine xc_region ?_
      refine xo_ef rfl (ef_call rfl (XF.mono (xf_works) ?_))
      rintro v L' ⟨rfl, rfl⟩
      refine xo_rd (rd_assign rfl) rfl ?_
      refine xo_nil ?_
      refine xq_seq ?_
      refine xc_ret ?_
      exact xq_ret1 (.inl rfl) Try.results4 rfl (rfl)
end Go.Proofs.Ytmjklmjdmocaiaa.X
