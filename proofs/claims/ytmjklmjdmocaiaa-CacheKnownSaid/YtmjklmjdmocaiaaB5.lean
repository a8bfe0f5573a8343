/-
  CachePlays: rows are compared and written over; a cache has the reference's packets: walks of my own.
-/
import Derived.Test.YtmjklmjdmocaiaaB4
namespace Go.Proofs.Ytmjklmjdmocaiaa.X
open Go Go.RowKit
set_option linter.unusedVariables false
set_option linter.unusedSimpArgs false
set_option maxHeartbeats 4000000 in
theorem xf_sameRows {W : World} {R : List Blk} (pa pb : Option Addr) (ca cb : Nat) (ws : List Ow) (os : List Rk) (la : List Blk) (hO : SlO 1 31 (.slice pa ws.length ca) ws.length (ws.map Ow.v) la) (hws : ∀ w, w ∈ ws → w.Is) (hr : Rs W R pb (os.map Rk.sl)) (hos : ∀ r, r ∈ os → r.Ok W) (he : ws.map Ow.bs = os.map Rk.bs) (hn : ws.length ≤ 1000) :
    XF Try.prog W 20 #[.slice pa ws.length ca, .slice pb os.length cb] (la ++ (ws.flatMap Ow.l ++ R)) (fun v L' => v = .bool true ∧ ∃ J, L' = J ++ R) := by
  have hlen : ws.length = os.length := by rw [← List.length_map (f := Ow.bs), he, List.length_map]
  refine xf_enter (args := [_, _]) Try.func20 rfl Try.ntmps20 rfl ?_
  focus
    refine xc_seq ?_
    refine xc_region ?_
    refine xo_rd (rd_assign rfl) rfl ?_
    refine xo_nil ?_
    refine xq_seq ?_
    refine xc_seq ?_
    refine xc_seq ?_
    refine xc_region ?_
    refine xo_rd (rd_move rfl) rfl ?_
    refine xo_rd (rd_len rfl) rfl ?_
    refine xo_rd (rd_move rfl) rfl ?_
    refine xo_rd (rd_len rfl) rfl ?_
    refine xo_rd (rd_neq rfl rfl) rfl ?_
    refine xo_nil ?_
    refine xq_seq ?_
    refine xc_ndec rfl (fun hz1 => (by exfalso; omega)) (fun hz1 => ?_)
    refine xc_skip ?_
    refine xq_seq ?_
    refine xc_seq ?_
    refine xc_seq ?_
    refine xc_region ?_
    refine xo_rd (rd_assign rfl) rfl ?_
    refine xo_nil ?_
    refine xq_seq ?_
    refine xc_block ?_
  refine xc_loopI (ι := Nat × List Blk) (fun s => s.1 ≤ ws.length) (fun s => ws.length - s.1) (fun s => la ++ (s.2 ++ ((ws.drop s.1).flatMap Ow.l ++ R))) (fun s => [(0, .slice pa ws.length ca), (1, .slice pb os.length cb), (5, .int .i64 s.1)]) (0, []) (Nat.zero_le _) rfl (by repeat (first | exact keep_nil | refine keep_cons rfl ?_)) ?_
  rintro ⟨i, J⟩ hi
  dsimp only at hi ⊢
  focus
    refine xc_seq ?_
    refine xc_seq ?_
    refine xc_region ?_
    refine xo_rd (rd_move rfl) rfl ?_
    refine xo_rd (rd_move rfl) rfl ?_
    refine xo_rd (rd_len rfl) rfl ?_
    refine xo_rd (rd_lss rfl rfl) rfl ?_
    refine xo_nil ?_
    refine xq_seq ?_
    refine xc_dec rfl (fun hi1 => ?_) (fun hi1 => ?_)
    refine xc_skip ?_
    refine xq_seq ?_
    refine xc_seq ?_
    refine xc_block ?_
    refine xc_seq ?_
    refine xc_seq ?_
    refine xc_drawML [0, 0, 3, 4, 0, 0, 48, 64, 136, 256] [0, 0, 3, 4, 0, 0, 48, 64, 136, 256] (by kernel_rfl) (by kernel_rfl) (by kernel_rfl) ?_
    refine xm_take 0 (m' := 1) rfl (by kernel_rfl) (by first | exact Sb.refl | exact Sb.nil | (repeat (first | exact Sb.nil | exact Sb.refl | exact Sb.app0 | apply Sb.keep | apply Sb.keepApp | apply Sb.cons | apply Sb.app))) (rd_move rfl) rfl (by kernel_rfl) ?_
    refine xm_take 1 (m' := 3) rfl (by kernel_rfl) (by first | exact Sb.refl | exact Sb.nil | (repeat (first | exact Sb.nil | exact Sb.refl | exact Sb.app0 | apply Sb.keep | apply Sb.keepApp | apply Sb.cons | apply Sb.app))) (rd_move rfl) rfl (by kernel_rfl) ?_
    refine xm_take 4 (m' := 19) rfl (by kernel_rfl) (by first | exact Sb.refl | exact Sb.nil | (repeat (first | exact Sb.nil | exact Sb.refl | exact Sb.app0 | apply Sb.keep | apply Sb.keepApp | apply Sb.cons | apply Sb.app))) (rd_move rfl) rfl (by kernel_rfl) ?_
    refine xm_take 5 (m' := 51) rfl (by kernel_rfl) (by first | exact Sb.refl | exact Sb.nil | (repeat (first | exact Sb.nil | exact Sb.refl | exact Sb.app0 | apply Sb.keep | apply Sb.keepApp | apply Sb.cons | apply Sb.app))) (rd_move rfl) rfl (by kernel_rfl) ?_
    rotate_left
    refine xc_exit ?_
    refine xq_then_exit ?_
    refine xq_then_exit ?_
    refine xq_block_hit ?_
    refine xq_seq ?_
    refine xc_seq ?_
    refine xc_region ?_
    refine xo_rd (rd_assign rfl) rfl ?_
    refine xo_nil ?_
    refine xq_seq ?_
    refine xc_ret ?_
    rotate_left
  · have hiw : i < ws.length := by omega
    have hio : i < os.length := by omega
    have hd : ws.drop i = ws[i] :: ws.drop (i + 1) := List.drop_eq_getElem_cons hiw
    have heb : ws[i].bs = os[i].bs := by
      have h1 : (ws.map Ow.bs)[i]? = (os.map Rk.bs)[i]? := by rw [he]
      simpa [hiw, hio] using h1
    have hwi := hws ws[i] (List.getElem_mem _)
    have hoi := hos os[i] (List.getElem_mem _)
    have ha1 : (ws.map Ow.v)[i]? = some ws[i].v := by simp [hiw]
    have hb1 : (os.map Rk.sl)[i]? = some os[i].sl := by simp [hio]
    rw [hd, List.flatMap_cons]
    generalize ws[i] = w at *
    obtain ⟨wv, wb, wl⟩ := w
    obtain ⟨qa, ka, hv, hA, _⟩ := hwi.o.opn
    have hwl := hwi.len
    dsimp only at hv hA hwl heb ha1 ⊢
    subst hv
    have hrs : Rs W (la ++ (J ++ (wl ++ (ws.drop (i + 1)).flatMap Ow.l ++ R))) pa (ws.map Ow.v) := hO.rs (by intro z hz; simp [hz])
    obtain ⟨b, o, rfl, hc⟩ := hrs.at (j := i) (by simpa using hiw)
    obtain ⟨b', o', rfl, hc'⟩ := (hr.mono (L' := la ++ (J ++ (wl ++ (ws.drop (i + 1)).flatMap Ow.l ++ R))) (by intro z hz; simp [hz])).at (j := i) (by simpa using hio)
    have k1 : Cl W (la ++ (J ++ (wl ++ (ws.drop (i + 1)).flatMap Ow.l ++ R))) b (o + i * 1) (.slice qa wb.length ka) := by rw [Nat.mul_one]; exact hc i _ ha1
    have k2 : Cl W (la ++ (J ++ (wl ++ (ws.drop (i + 1)).flatMap Ow.l ++ R))) b' (o' + i * 1) (.slice os[i].p os[i].m os[i].c) := by rw [Nat.mul_one]; exact hc' i _ hb1
    focus
      refine xm_take 2 (m' := 55) rfl (by kernel_rfl) (by first | exact Sb.refl | exact Sb.nil | (repeat (first | exact Sb.nil | exact Sb.refl | exact Sb.app0 | apply Sb.keep | apply Sb.keepApp | apply Sb.cons | apply Sb.app))) (rd_indexAddr rfl rfl (by omega) (by omega)) rfl (by kernel_rfl) ?_
      refine xm_take 3 (m' := 63) rfl (by kernel_rfl) (by first | exact Sb.refl | exact Sb.nil | (repeat (first | exact Sb.nil | exact Sb.refl | exact Sb.app0 | apply Sb.keep | apply Sb.keepApp | apply Sb.cons | apply Sb.app))) (rd_load1 rfl k1) rfl (by kernel_rfl) ?_
      refine xm_take 6 (m' := 127) rfl (by kernel_rfl) (by first | exact Sb.refl | exact Sb.nil | (repeat (first | exact Sb.nil | exact Sb.refl | exact Sb.app0 | apply Sb.keep | apply Sb.keepApp | apply Sb.cons | apply Sb.app))) (rd_indexAddr rfl rfl (by omega) (by omega)) rfl (by kernel_rfl) ?_
      refine xm_take 7 (m' := 255) rfl (by kernel_rfl) (by first | exact Sb.refl | exact Sb.nil | (repeat (first | exact Sb.nil | exact Sb.refl | exact Sb.app0 | apply Sb.keep | apply Sb.keepApp | apply Sb.cons | apply Sb.app))) (rd_load1 rfl k2) rfl (by kernel_rfl) ?_
      refine xm_one 8 (m' := 511) rfl (by kernel_rfl) rfl (by kernel_rfl) (ef_call rfl (XF.mono (xf_sameT _ _ _ _ _ _ wb os[i].bs heb rfl hoi.len (hA.rs (by intro z hz; simp [hz])) hoi.rs.nilL (by omega)) ?_))
      rintro v L' ⟨rfl, rfl⟩
      refine ⟨(by first | exact Sb.refl | exact Sb.nil | (repeat (first | exact Sb.nil | exact Sb.refl | exact Sb.app0 | apply Sb.keep | apply Sb.keepApp | apply Sb.cons | apply Sb.app))), ?_⟩
      refine xm_take 9 (m' := 1023) rfl (by kernel_rfl) (by first | exact Sb.refl | exact Sb.nil | (repeat (first | exact Sb.nil | exact Sb.refl | exact Sb.app0 | apply Sb.keep | apply Sb.keepApp | apply Sb.cons | apply Sb.app))) (rd_not rfl) rfl (by kernel_rfl) ?_
      refine xm_done (by kernel_rfl) ?_
      refine xq_seq ?_
      refine xc_condf rfl ?_
      refine xc_skip ?_
      refine xq_seq ?_
      refine xc_region ?_
      refine xo_rd (rd_move rfl) rfl ?_
      refine xo_rd (rd_move rfl) rfl ?_
      refine xo_rd (rd_indexAddr rfl rfl (by omega) (by omega)) rfl ?_
      refine xo_rd (rd_load1 rfl k1) rfl ?_
    refine xo_ef rfl (ef_call rfl (XF.mono (XF.perm (xf_spoil (R := la ++ (J ++ ((ws.drop (i + 1)).flatMap Ow.l ++ R))) _ _ _ wl hA (by omega)) (by classical exact List.perm_iff_count.2 fun a => by simp only [List.append_eq, List.count_append, List.count_cons, List.count_nil, List.cons_append, List.nil_append, List.flatMap_append, List.flatMap_cons, List.flatMap_nil, List.append_nil]; omega)) ?_))
    rintro v L' ⟨rfl, xs', l', hO', rfl⟩
    refine xo_perm (L' := la ++ ((J ++ l') ++ ((ws.drop (i + 1)).flatMap Ow.l ++ R))) (by classical exact List.perm_iff_count.2 fun a => by simp only [List.append_eq, List.count_append, List.count_cons, List.count_nil, List.cons_append, List.nil_append, List.flatMap_append, List.flatMap_cons, List.flatMap_nil, List.append_nil]; omega) ?_
    focus
      refine xo_nil ?_
      refine xq_block ?_
      refine xq_seq ?_
      refine xc_region ?_
      refine xo_rd (rd_move rfl) rfl ?_
      refine xo_rd (rd_addn rfl rfl (by omega) (by omega)) rfl ?_
      refine xo_rd (rd_assign rfl) rfl ?_
      refine xo_nil ?_
    exact xq_roundI (i + 1, J ++ l') (by dsimp only; omega) (by dsimp only; omega) rfl (by repeat (first | exact keep_nil | refine keep_cons rfl ?_))
  · refine xq_ret1 (.inl rfl) Try.results20 rfl ⟨rfl, la ++ (J ++ (ws.drop i).flatMap Ow.l), by simp⟩
theorem find_pp_at (l : List Pp) (i : Nat) (hi : i < l.length) (h : (l.map Pp.n).Nodup) : l.find? (fun q => q.n == l[i].n) = some l[i] := by
  rw [List.find?_eq_some_iff_getElem]
  refine ⟨by simp, i, hi, rfl, fun j hj => ?_⟩
  have hd := List.pairwise_iff_getElem.1 h j i (by simpa using (by omega : j < l.length)) (by simpa using hi) hj
  simp only [List.getElem_map] at hd
  simpa using hd
set_option maxHeartbeats 8000000 in
theorem xf_is {W : World} {R : List Blk} (x : Ca) (hx : x.Fine) (y : Rc) (hy : y.Ok W) (hsub : ∀ z, z ∈ y.l → z ∈ R) (he : x.st = y.st) : XF Try.prog W 23 #[.pointer (some ⟨x.c, 0, none⟩), .agg y.cells.toArray] (x.blks ++ R) (fun v L' => v = .bool true ∧ L' = x.blks ++ R) := by
  obtain ⟨size, hold, rows, p, c, l0⟩ := y
  have hl : x.st.l = rows.map Rk.pp := by rw [he]; rfl
  have hlen : x.st.l.length = rows.length := by rw [hl, List.length_map]
  have hplen : x.ps.length = rows.length := by rw [x.ps_len, hlen]
  have hnums : x.st.l.map Pp.n = rows.map Rk.n := by rw [hl, List.map_map]; rfl
  have hpnod : (x.st.l.map Pp.n).Nodup := by rw [← x.ps_n]; exact hx.ok.nod
  obtain ⟨hr, hrows, hfew, hh, hsz, hnod⟩ := hy
  dsimp only at hr hrows hfew hh hsub hsz hnod
  refine xf_enter (args := [_, _]) Try.func23 rfl Try.ntmps23 rfl ?_
  focus
    refine xc_seq ?_
    refine xc_region ?_
    refine xo_ef rfl (ef_box rfl fun r3 => ?_)
    refine xo_rd (rd_assign rfl) rfl ?_
    refine xo_nil ?_
    refine xq_seq ?_
    refine xc_seq ?_
    refine xc_region ?_
    refine xo_rd (rd_move rfl) rfl ?_
  refine xo_ef rfl (ef_call rfl (XF.mono (XF.seg [_] x.blks R (xf_numbersr x hx)) ?_))
  rintro v L' ⟨p1, k1, l1, rfl, hO1, hk1, rfl⟩
  rw [hlen, hnums] at hO1
  rw [hlen]
  refine xo_perm (L := l1 ++ (x.blks ++ ([(r3, .cells [.int .i64 size, .int .u64 hold, .slice p rows.length c].toArray 43 (0, 0))] ++ R))) (L' := (r3, .cells [.int .i64 size, .int .u64 hold, .slice p rows.length c].toArray 43 (0, 0)) :: (l1 ++ (x.blks ++ R))) (by classical exact List.perm_iff_count.2 fun a => by simp only [List.append_eq, List.count_append, List.count_cons, List.count_nil, List.cons_append, List.nil_append, List.flatMap_append, List.flatMap_cons, List.flatMap_nil, List.append_nil]; omega) ?_
  focus
    refine xo_rd (rd_assign rfl) rfl ?_
    refine xo_nil ?_
    refine xq_seq ?_
    refine xc_seq ?_
    refine xc_seq ?_
    refine xc_drawML [0, 1, 0, 4, 8, 18, 32, 64, 192, 64, 576, 1088, 2368, 4160] [0, 1, 0, 4, 8, 18, 32, 64, 192, 64, 576, 1088, 2368, 4160] (by kernel_rfl) (by kernel_rfl) (by kernel_rfl) ?_
    refine xm_take 0 (m' := 1) rfl (by kernel_rfl) (by first | exact Sb.refl | exact Sb.nil | (repeat (first | exact Sb.nil | exact Sb.refl | exact Sb.app0 | apply Sb.keep | apply Sb.keepApp | apply Sb.cons | apply Sb.app))) (rd_move rfl) rfl (by kernel_rfl) ?_
    refine xm_take 1 (m' := 3) rfl (by kernel_rfl) (by first | exact Sb.refl | exact Sb.nil | (repeat (first | exact Sb.nil | exact Sb.refl | exact Sb.app0 | apply Sb.keep | apply Sb.keepApp | apply Sb.cons | apply Sb.app))) (rd_len rfl) rfl (by kernel_rfl) ?_
    refine xm_take 2 (m' := 7) rfl (by kernel_rfl) (by first | exact Sb.refl | exact Sb.nil | (repeat (first | exact Sb.nil | exact Sb.refl | exact Sb.app0 | apply Sb.keep | apply Sb.keepApp | apply Sb.cons | apply Sb.app))) (rd_fieldAddr rfl) rfl (by kernel_rfl) ?_
    refine xm_take 3 (m' := 15) rfl (by kernel_rfl) (by first | exact Sb.refl | exact Sb.nil | (repeat (first | exact Sb.nil | exact Sb.refl | exact Sb.app0 | apply Sb.keep | apply Sb.keepApp | apply Sb.cons | apply Sb.app))) (rd_load1 rfl (Cl.o0 rfl)) rfl (by kernel_rfl) ?_
    refine xm_take 4 (m' := 31) rfl (by kernel_rfl) (by first | exact Sb.refl | exact Sb.nil | (repeat (first | exact Sb.nil | exact Sb.refl | exact Sb.app0 | apply Sb.keep | apply Sb.keepApp | apply Sb.cons | apply Sb.app))) (rd_len rfl) rfl (by kernel_rfl) ?_
    refine xm_take 5 (m' := 63) rfl (by kernel_rfl) (by first | exact Sb.refl | exact Sb.nil | (repeat (first | exact Sb.nil | exact Sb.refl | exact Sb.app0 | apply Sb.keep | apply Sb.keepApp | apply Sb.cons | apply Sb.app))) (rd_neq rfl rfl) rfl (by kernel_rfl) ?_
    refine xm_take 6 (m' := 127) rfl (by kernel_rfl) (by first | exact Sb.refl | exact Sb.nil | (repeat (first | exact Sb.nil | exact Sb.refl | exact Sb.app0 | apply Sb.keep | apply Sb.keepApp | apply Sb.cons | apply Sb.app))) (rd_move rfl) rfl (by kernel_rfl) ?_
    refine xm_ndec 17 rfl (fun h => absurd rfl h) (fun _ => ?_)
    refine xm_gtake 7 (m' := 255) rfl (by kernel_rfl) (by first | exact Sb.refl | exact Sb.nil | (repeat (first | exact Sb.nil | exact Sb.refl | exact Sb.app0 | apply Sb.keep | apply Sb.keepApp | apply Sb.cons | apply Sb.app))) rfl rfl (rd_move rfl) rfl (by kernel_rfl) ?_
    refine xm_gtake 9 (m' := 767) rfl (by kernel_rfl) (by first | exact Sb.refl | exact Sb.nil | (repeat (first | exact Sb.nil | exact Sb.refl | exact Sb.app0 | apply Sb.keep | apply Sb.keepApp | apply Sb.cons | apply Sb.app))) rfl rfl (rd_fieldAddr rfl) rfl (by kernel_rfl) ?_
    refine xm_gtake 10 (m' := 1791) rfl (by kernel_rfl) (by first | exact Sb.refl | exact Sb.nil | (repeat (first | exact Sb.nil | exact Sb.refl | exact Sb.app0 | apply Sb.keep | apply Sb.keepApp | apply Sb.cons | apply Sb.app))) rfl rfl (rd_load1 rfl (Cl.o0 rfl)) rfl (by kernel_rfl) ?_
    refine xm_gtake 11 (m' := 3839) rfl (by kernel_rfl) (by first | exact Sb.refl | exact Sb.nil | (repeat (first | exact Sb.nil | exact Sb.refl | exact Sb.app0 | apply Sb.keep | apply Sb.keepApp | apply Sb.cons | apply Sb.app))) rfl rfl (rd_len rfl) rfl (by kernel_rfl) ?_
    refine xm_gone 8 (m' := 4095) rfl (by kernel_rfl) rfl rfl rfl (by kernel_rfl) (ef_call rfl (XF.mono (XF.seg (_ :: l1) x.blks R (xf_len x hx.ok)) ?_))
    rintro v L' ⟨rfl, rfl⟩
    refine xmx_seg (_ :: l1) x.blks _ ?_
    refine ⟨(by first | exact Sb.refl | exact Sb.nil | (repeat (first | exact Sb.nil | exact Sb.refl | exact Sb.app0 | apply Sb.keep | apply Sb.keepApp | apply Sb.cons | apply Sb.app))), ?_⟩
    refine xm_gtake 12 (m' := 8191) rfl (by kernel_rfl) (by first | exact Sb.refl | exact Sb.nil | (repeat (first | exact Sb.nil | exact Sb.refl | exact Sb.app0 | apply Sb.keep | apply Sb.keepApp | apply Sb.cons | apply Sb.app))) rfl rfl (rd_neq rfl rfl) rfl (by kernel_rfl) ?_
    refine xm_take 13 (m' := 16383) rfl (by kernel_rfl) (by first | exact Sb.refl | exact Sb.nil | (repeat (first | exact Sb.nil | exact Sb.refl | exact Sb.app0 | apply Sb.keep | apply Sb.keepApp | apply Sb.cons | apply Sb.app))) (rd_pickf rfl rfl) rfl (by kernel_rfl) ?_
    refine xm_done (by kernel_rfl) ?_
    refine xq_seq ?_
    refine xc_ndec rfl (fun hz2 => (by exfalso; omega)) (fun hz2 => ?_)
    refine xc_skip ?_
    refine xq_seq ?_
    refine xc_seq ?_
    refine xc_seq ?_
    refine xc_region ?_
    refine xo_rd (rd_assign rfl) rfl ?_
    refine xo_nil ?_
    refine xq_seq ?_
    refine xc_block ?_
  refine xc_loopI (ι := Nat × List Value × List Blk) (fun s => s.1 ≤ rows.length ∧ SlO 1 30 (.slice p1 rows.length k1) rows.length s.2.1 s.2.2 ∧ s.2.1.drop s.1 = (ints .u16 (rows.map Rk.n)).drop s.1) (fun s => rows.length - s.1) (fun s => (r3, .cells [.int .i64 size, .int .u64 hold, .slice p rows.length c].toArray 43 (0, 0)) :: (s.2.2 ++ (x.blks ++ R))) (fun s => [(0, .pointer (some ⟨x.c, 0, none⟩)), (3, .pointer (some ⟨r3, 0, none⟩)), (5, .slice p1 rows.length k1), (6, .int .i64 s.1)]) (0, ints .u16 (rows.map Rk.n), l1) ⟨Nat.zero_le _, hO1, rfl⟩ rfl (by repeat (first | exact keep_nil | refine keep_cons rfl ?_)) ?_
  rintro ⟨i, xs, l⟩ ⟨hi, hO, hd⟩
  dsimp only at hi hO hd ⊢
  focus
    refine xc_seq ?_
    refine xc_seq ?_
    refine xc_region ?_
    refine xo_rd (rd_move rfl) rfl ?_
    refine xo_rd (rd_move rfl) rfl ?_
    refine xo_rd (rd_len rfl) rfl ?_
    refine xo_rd (rd_lss rfl rfl) rfl ?_
    refine xo_nil ?_
    refine xq_seq ?_
    refine xc_dec rfl (fun hi1 => ?_) (fun hi1 => ?_)
    refine xc_skip ?_
    refine xq_seq ?_
    refine xc_seq ?_
    refine xc_block ?_
    refine xc_seq ?_
    refine xc_region ?_
    refine xo_rd (rd_move rfl) rfl ?_
    refine xo_rd (rd_move rfl) rfl ?_
    refine xo_rd (rd_move rfl) rfl ?_
    rotate_left
    refine xc_exit ?_
    refine xq_then_exit ?_
    refine xq_then_exit ?_
    refine xq_block_hit ?_
    refine xq_seq ?_
    refine xc_seq ?_
    refine xc_region ?_
    refine xo_rd (rd_assign rfl) rfl ?_
    refine xo_nil ?_
    refine xq_seq ?_
    refine xc_ret ?_
    rotate_left
  · have hir : i < rows.length := by omega
    have hil : i < x.st.l.length := by omega
    have hxi : xs[i]? = some (.int .u16 rows[i].n) := by
      have h1 := congrArg (fun z => z[0]?) hd
      simp only [List.getElem?_drop, Nat.add_zero] at h1
      rw [h1]
      simp [ints, hir]
    have hgi : x.st.l[i] = rows[i].pp := by simp [hl]
    have hhas : x.st.has rows[i].n = some rows[i].pp := by
      have := find_pp_at x.st.l i hil hpnod
      rw [hgi] at this
      exact this
    have hgood := hrows rows[i] (List.getElem_mem _)
    obtain ⟨b, o, hp1, hc1⟩ := (hO.rs (W := W) (L := (r3, .cells [.int .i64 size, .int .u64 hold, .slice p rows.length c].toArray 43 (0, 0)) :: (l ++ (x.blks ++ R))) (by intro z hz; simp [hz])).at (j := i) (by rw [hO.len]; omega)
    subst hp1
    have k1' : Cl W ((r3, .cells [.int .i64 size, .int .u64 hold, .slice p rows.length c].toArray 43 (0, 0)) :: (l ++ (x.blks ++ R))) b (o + i * 1) (.int .u16 rows[i].n) := by rw [Nat.mul_one]; exact hc1 i _ hxi
    focus
      refine xo_rd (rd_indexAddr rfl rfl (by omega) (by omega)) rfl ?_
      refine xo_rd (rd_load1 rfl k1') rfl ?_
    refine xo_ef rfl (ef_call rfl (XF.mono (XF.seg (_ :: l) x.blks R (xf_get_some x hx.ok rows[i].n rows[i].pp hhas)) ?_))
    rintro v L' ⟨p2, k2, lb, rfl, hO2, hk2, hle2, rfl⟩
    refine xo_perm (L' := lb ++ ((r3, .cells [.int .i64 size, .int .u64 hold, .slice p rows.length c].toArray 43 (0, 0)) :: (l ++ (x.blks ++ R)))) (by classical exact List.perm_iff_count.2 fun a => by simp only [List.append_eq, List.count_append, List.count_cons, List.count_nil, List.cons_append, List.nil_append, List.flatMap_append, List.flatMap_cons, List.flatMap_nil, List.append_nil]; omega) ?_
    obtain ⟨b3, o3, hp3, hc3⟩ := (hr.mono hsub).row Rk.len (by decide) hir
    subst hp3
    have k3 : ∀ j u, rows[i].enc[j]? = some u → Cl W (lb ++ ((r3, .cells [.int .i64 size, .int .u64 hold, .slice (some ⟨b3, o3, none⟩) rows.length c].toArray 43 (0, 0)) :: (l ++ (x.blks ++ R)))) b3 (o3 + i * 4 + j) u := fun j u hj => (hc3 j u hj).app.app.skip.app
    focus
      refine xo_rd (rd_move rfl) rfl ?_
      refine xo_rd (rd_extract rfl rfl) rfl ?_
      refine xo_rd (rd_extract rfl rfl) rfl ?_
      refine xo_rd (rd_assign rfl) rfl ?_
      refine xo_rd (rd_assign rfl) rfl ?_
      refine xo_nil ?_
      refine xq_seq ?_
      refine xc_seq ?_
      refine xc_seq ?_
      refine xc_drawML [0, 0, 3, 4, 0, 16, 0, 96, 128, 256, 520, 1024, 2048, 6144, 10240, 18432, 32768, 32768, 163840, 32768, 819200, 1081344, 2129920, 4292608, 8421376, 16809984] [0, 0, 3, 4, 0, 16, 0, 96, 128, 256, 520, 1024, 2048, 6144, 10240, 18432, 32768, 32768, 163840, 32768, 819200, 1081344, 2129920, 4292608, 8421376, 16809984] (by kernel_rfl) (by kernel_rfl) (by kernel_rfl) ?_
      refine xm_take 0 (m' := 1) rfl (by kernel_rfl) (by first | exact Sb.refl | exact Sb.nil | (repeat (first | exact Sb.nil | exact Sb.refl | exact Sb.app0 | apply Sb.keep | apply Sb.keepApp | apply Sb.cons | apply Sb.app))) (rd_move rfl) rfl (by kernel_rfl) ?_
      refine xm_take 1 (m' := 3) rfl (by kernel_rfl) (by first | exact Sb.refl | exact Sb.nil | (repeat (first | exact Sb.nil | exact Sb.refl | exact Sb.app0 | apply Sb.keep | apply Sb.keepApp | apply Sb.cons | apply Sb.app))) (rd_move rfl) rfl (by kernel_rfl) ?_
      refine xm_take 2 (m' := 7) rfl (by kernel_rfl) (by first | exact Sb.refl | exact Sb.nil | (repeat (first | exact Sb.nil | exact Sb.refl | exact Sb.app0 | apply Sb.keep | apply Sb.keepApp | apply Sb.cons | apply Sb.app))) (rd_indexAddr rfl rfl (by omega) (by omega)) rfl (by kernel_rfl) ?_
      refine xm_take 3 (m' := 15) rfl (by kernel_rfl) (by first | exact Sb.refl | exact Sb.nil | (repeat (first | exact Sb.nil | exact Sb.refl | exact Sb.app0 | apply Sb.keep | apply Sb.keepApp | apply Sb.cons | apply Sb.app))) (rd_load1 rfl k1'.app) rfl (by kernel_rfl) ?_
      refine xm_take 4 (m' := 31) rfl (by kernel_rfl) (by first | exact Sb.refl | exact Sb.nil | (repeat (first | exact Sb.nil | exact Sb.refl | exact Sb.app0 | apply Sb.keep | apply Sb.keepApp | apply Sb.cons | apply Sb.app))) (rd_fieldAddr rfl) rfl (by kernel_rfl) ?_
      refine xm_take 5 (m' := 63) rfl (by kernel_rfl) (by first | exact Sb.refl | exact Sb.nil | (repeat (first | exact Sb.nil | exact Sb.refl | exact Sb.app0 | apply Sb.keep | apply Sb.keepApp | apply Sb.cons | apply Sb.app))) (rd_load1 rfl (Cl.app (Cl.o0 rfl))) rfl (by kernel_rfl) ?_
      refine xm_take 6 (m' := 127) rfl (by kernel_rfl) (by first | exact Sb.refl | exact Sb.nil | (repeat (first | exact Sb.nil | exact Sb.refl | exact Sb.app0 | apply Sb.keep | apply Sb.keepApp | apply Sb.cons | apply Sb.app))) (rd_move rfl) rfl (by kernel_rfl) ?_
      refine xm_take 7 (m' := 255) rfl (by kernel_rfl) (by first | exact Sb.refl | exact Sb.nil | (repeat (first | exact Sb.nil | exact Sb.refl | exact Sb.app0 | apply Sb.keep | apply Sb.keepApp | apply Sb.cons | apply Sb.app))) (rd_indexAddr rfl rfl (by omega) (by omega)) rfl (by kernel_rfl) ?_
      refine xm_take 8 (m' := 511) rfl (by kernel_rfl) (by first | exact Sb.refl | exact Sb.nil | (repeat (first | exact Sb.nil | exact Sb.refl | exact Sb.app0 | apply Sb.keep | apply Sb.keepApp | apply Sb.cons | apply Sb.app))) (rd_fieldAddr rfl) rfl (by kernel_rfl) ?_
      refine xm_take 9 (m' := 1023) rfl (by kernel_rfl) (by first | exact Sb.refl | exact Sb.nil | (repeat (first | exact Sb.nil | exact Sb.refl | exact Sb.app0 | apply Sb.keep | apply Sb.keepApp | apply Sb.cons | apply Sb.app))) (rd_load1 rfl (k3 0 _ rfl)) rfl (by kernel_rfl) ?_
      refine xm_take 10 (m' := 2047) rfl (by kernel_rfl) (by first | exact Sb.refl | exact Sb.nil | (repeat (first | exact Sb.nil | exact Sb.refl | exact Sb.app0 | apply Sb.keep | apply Sb.keepApp | apply Sb.cons | apply Sb.app))) (rd_neq rfl rfl) rfl (by kernel_rfl) ?_
      refine xm_take 11 (m' := 4095) rfl (by kernel_rfl) (by first | exact Sb.refl | exact Sb.nil | (repeat (first | exact Sb.nil | exact Sb.refl | exact Sb.app0 | apply Sb.keep | apply Sb.keepApp | apply Sb.cons | apply Sb.app))) (rd_move rfl) rfl (by kernel_rfl) ?_
      refine xm_ndec 51 rfl (fun h => absurd rfl h) (fun _ => ?_)
      refine xm_gtake 12 (m' := 8191) rfl (by kernel_rfl) (by first | exact Sb.refl | exact Sb.nil | (repeat (first | exact Sb.nil | exact Sb.refl | exact Sb.app0 | apply Sb.keep | apply Sb.keepApp | apply Sb.cons | apply Sb.app))) rfl rfl (rd_move rfl) rfl (by kernel_rfl) ?_
      refine xm_gtake 13 (m' := 16383) rfl (by kernel_rfl) (by first | exact Sb.refl | exact Sb.nil | (repeat (first | exact Sb.nil | exact Sb.refl | exact Sb.app0 | apply Sb.keep | apply Sb.keepApp | apply Sb.cons | apply Sb.app))) rfl rfl (rd_not rfl) rfl (by kernel_rfl) ?_
      refine xm_take 14 (m' := 32767) rfl (by kernel_rfl) (by first | exact Sb.refl | exact Sb.nil | (repeat (first | exact Sb.nil | exact Sb.refl | exact Sb.app0 | apply Sb.keep | apply Sb.keepApp | apply Sb.cons | apply Sb.app))) (rd_pickf rfl rfl) rfl (by kernel_rfl) ?_
      refine xm_take 15 (m' := 65535) rfl (by kernel_rfl) (by first | exact Sb.refl | exact Sb.nil | (repeat (first | exact Sb.nil | exact Sb.refl | exact Sb.app0 | apply Sb.keep | apply Sb.keepApp | apply Sb.cons | apply Sb.app))) (rd_move rfl) rfl (by kernel_rfl) ?_
      refine xm_gtake 16 (m' := 131071) rfl (by kernel_rfl) (by first | exact Sb.refl | exact Sb.nil | (repeat (first | exact Sb.nil | exact Sb.refl | exact Sb.app0 | apply Sb.keep | apply Sb.keepApp | apply Sb.cons | apply Sb.app))) rfl rfl (rd_move rfl) rfl (by kernel_rfl) ?_
      refine xm_gtake 17 (m' := 262143) rfl (by kernel_rfl) (by first | exact Sb.refl | exact Sb.nil | (repeat (first | exact Sb.nil | exact Sb.refl | exact Sb.app0 | apply Sb.keep | apply Sb.keepApp | apply Sb.cons | apply Sb.app))) rfl rfl (rd_fieldAddr rfl) rfl (by kernel_rfl) ?_
      refine xm_gtake 18 (m' := 524287) rfl (by kernel_rfl) (by first | exact Sb.refl | exact Sb.nil | (repeat (first | exact Sb.nil | exact Sb.refl | exact Sb.app0 | apply Sb.keep | apply Sb.keepApp | apply Sb.cons | apply Sb.app))) rfl rfl (rd_load1 rfl (Cl.app (Cl.o0 rfl))) rfl (by kernel_rfl) ?_
      refine xm_gtake 19 (m' := 1048575) rfl (by kernel_rfl) (by first | exact Sb.refl | exact Sb.nil | (repeat (first | exact Sb.nil | exact Sb.refl | exact Sb.app0 | apply Sb.keep | apply Sb.keepApp | apply Sb.cons | apply Sb.app))) rfl rfl (rd_move rfl) rfl (by kernel_rfl) ?_
      refine xm_gtake 20 (m' := 2097151) rfl (by kernel_rfl) (by first | exact Sb.refl | exact Sb.nil | (repeat (first | exact Sb.nil | exact Sb.refl | exact Sb.app0 | apply Sb.keep | apply Sb.keepApp | apply Sb.cons | apply Sb.app))) rfl rfl (rd_indexAddr rfl rfl (by omega) (by omega)) rfl (by kernel_rfl) ?_
      refine xm_gtake 21 (m' := 4194303) rfl (by kernel_rfl) (by first | exact Sb.refl | exact Sb.nil | (repeat (first | exact Sb.nil | exact Sb.refl | exact Sb.app0 | apply Sb.keep | apply Sb.keepApp | apply Sb.cons | apply Sb.app))) rfl rfl (rd_fieldAddr rfl) rfl (by kernel_rfl) ?_
      refine xm_gtake 22 (m' := 8388607) rfl (by kernel_rfl) (by first | exact Sb.refl | exact Sb.nil | (repeat (first | exact Sb.nil | exact Sb.refl | exact Sb.app0 | apply Sb.keep | apply Sb.keepApp | apply Sb.cons | apply Sb.app))) rfl rfl (rd_load1 rfl (k3 1 _ rfl)) rfl (by kernel_rfl) ?_
      refine xm_gone 23 (m' := 16777215) rfl (by kernel_rfl) rfl rfl rfl (by kernel_rfl) (ef_call rfl (XF.mono (xf_sameT _ _ _ _ _ _ rows[i].pp.bs rows[i].bs rfl rfl hgood.len (hO2.rs (by intro z hz; simp [hz])) hgood.rs.nilL (by omega)) ?_))
      rintro v L' ⟨rfl, rfl⟩
      refine ⟨(by first | exact Sb.refl | exact Sb.nil | (repeat (first | exact Sb.nil | exact Sb.refl | exact Sb.app0 | apply Sb.keep | apply Sb.keepApp | apply Sb.cons | apply Sb.app))), ?_⟩
      refine xm_gtake 24 (m' := 33554431) rfl (by kernel_rfl) (by first | exact Sb.refl | exact Sb.nil | (repeat (first | exact Sb.nil | exact Sb.refl | exact Sb.app0 | apply Sb.keep | apply Sb.keepApp | apply Sb.cons | apply Sb.app))) rfl rfl (rd_not rfl) rfl (by kernel_rfl) ?_
      refine xm_take 25 (m' := 67108863) rfl (by kernel_rfl) (by first | exact Sb.refl | exact Sb.nil | (repeat (first | exact Sb.nil | exact Sb.refl | exact Sb.app0 | apply Sb.keep | apply Sb.keepApp | apply Sb.cons | apply Sb.app))) (rd_pickf rfl rfl) rfl (by kernel_rfl) ?_
      refine xm_done (by kernel_rfl) ?_
      refine xq_seq ?_
      refine xc_condf rfl ?_
      refine xc_skip ?_
      refine xq_seq ?_
      refine xc_seq ?_
      refine xc_region ?_
      refine xo_rd (rd_move rfl) rfl ?_
    refine xo_ef rfl (ef_call rfl (XF.mono (xf_spoil _ _ _ lb hO2 (by omega)) ?_))
    rintro v L' ⟨rfl, xs', lb', hO', rfl⟩
    focus
      refine xo_nil ?_
      refine xq_seq ?_
      refine xc_region ?_
      refine xo_rd (rd_move rfl) rfl ?_
      refine xo_rd (rd_move rfl) rfl ?_
      refine xo_rd (rd_indexAddr rfl rfl (by omega) (by omega)) rfl ?_
    refine xo_ef rfl (ef_storeElo (lb' ++ [_]) (x.blks ++ R) (i := i) hO rfl rfl (by omega) rfl rfl rfl (by decide) (by simp; rfl) fun l' hO3 => ?_)
    focus
      refine xo_nil ?_
      refine xq_block ?_
      refine xq_seq ?_
      refine xc_region ?_
      refine xo_rd (rd_move rfl) rfl ?_
      refine xo_rd (rd_addn rfl rfl (by omega) (by omega)) rfl ?_
      refine xo_rd (rd_assign rfl) rfl ?_
      refine xo_nil ?_
    refine xq_sub (L' := (r3, .cells [.int .i64 size, .int .u64 hold, .slice (some ⟨b3, o3, none⟩) rows.length c].toArray 43 (0, 0)) :: (l' ++ (x.blks ++ R))) (by rw [List.append_assoc]; exact List.sublist_append_right _ _) ?_
    refine xq_roundI (i + 1, _, l') ⟨by dsimp only; omega, hO3, ?_⟩ (by dsimp only; omega) rfl (by repeat (first | exact keep_nil | refine keep_cons rfl ?_))
    have hxl := hO.len
    have e1 : (xs.take (i * 1) ++ (Value.int .u16 77).cells.toList).length = i + 1 := by
      rw [List.length_append, List.length_take]; simp [Value.cells]; omega
    dsimp only
    rw [List.drop_left' e1, Nat.mul_one, ← List.drop_drop, hd, List.drop_drop]
  · refine xq_sub (L' := x.blks ++ R) ((List.sublist_append_right _ _).trans (List.sublist_cons_self _ _)) ?_
    exact xq_ret1 (.inl rfl) Try.results23 rfl ⟨rfl, rfl⟩
end Go.Proofs.Ytmjklmjdmocaiaa.X
