/-
  The chapter's examples of the cache, by a walk of my own.
-/
import Derived.Test.YtmjklmjdmocaiaaA6
import Derived.Test.YtmjklmjdmocaiaaX14
namespace Go.Proofs.Ytmjklmjdmocaiaa.X
open Go Go.RowKit
set_option linter.unusedVariables false
set_option linter.unusedSimpArgs false
/-- It stands, and has not more than it may. -/
structure Ca.Fine (x : Ca) : Prop where
  ok : x.Ok
  fit : (x.ps.length : Int) ≤ x.size
theorem Sta.put_fit (s : Sta) (n : Int) (bs : List Int) (h : (s.l.length : Int) ≤ s.size) : ((s.put n bs).l.length : Int) ≤ s.size := by
  unfold Sta.put cutTo
  have h1 : (s.l.eraseP (fun q => q.n == n)).length ≤ s.l.length := List.length_eraseP_le
  dsimp only
  split
  · rw [List.length_tail, List.length_append]; simp only [List.length_cons, List.length_nil]; omega
  · omega
theorem ask1_fit (now : Int) (s : Sta × List (List Int)) (n : Int) : (Sta.ask1 now s n).1.size = s.1.size ∧ (Sta.ask1 now s n).1.hold = s.1.hold ∧ (Sta.ask1 now s n).1.l.length = s.1.l.length := by
  unfold Sta.ask1
  split
  · exact ⟨rfl, rfl, rfl⟩
  · split
    · exact ⟨rfl, rfl, by simp⟩
    · exact ⟨rfl, rfl, rfl⟩
theorem ask_fit (now : Int) : ∀ (ns : List Int) (s : Sta × List (List Int)), (ns.foldl (Sta.ask1 now) s).1.size = s.1.size ∧ (ns.foldl (Sta.ask1 now) s).1.hold = s.1.hold ∧ (ns.foldl (Sta.ask1 now) s).1.l.length = s.1.l.length
  | [], s => ⟨rfl, rfl, rfl⟩
  | n :: r, s => by
    rw [List.foldl_cons]
    obtain ⟨h1, h2, h3⟩ := ask_fit now r (Sta.ask1 now s n)
    obtain ⟨g1, g2, g3⟩ := ask1_fit now s n
    exact ⟨h1.trans g1, h2.trans g2, h3.trans g3⟩
theorem xf_putr {W : World} {L : List Blk} (x : Ca) (hx : x.Fine) (n : Int) (p : Option Addr) (m k : Nat) (bs : List Int) (hb : bs.length = m) (hr : Rs W L p (ints .u8 bs)) (hm : m ≤ 1000) :
    XF Try.prog W 12 #[.pointer (some ⟨x.c, 0, none⟩), .int .u16 n, .slice p m k] (x.blks ++ L) (fun v L' => v = .tuple #[] ∧ ∃ y : Ca, y.Fine ∧ y.c = x.c ∧ y.st = x.st.put n bs ∧ L' = y.blks ++ L) :=
  (xf_put x hx.ok (by have := hx.fit; have := hx.ok.sz; omega) n p m k bs hb hr hm).mono fun v L' ⟨h1, y, h2, h3, h4, h5⟩ => ⟨h1, y, ⟨h2, by
    have e1 : y.size = x.size := congrArg Sta.size h4
    have e2 : y.ps.length = (x.st.put n bs).l.length := by rw [← h4]; simp [Ca.st]
    rw [e1, e2]
    exact x.st.put_fit n bs (by simp only [Ca.st, List.length_map]; exact hx.fit)⟩, h3, h4, h5⟩
theorem xf_askr {W : World} {L : List Blk} (x : Ca) (hx : x.Fine) (now : Int) (hn0 : 0 ≤ now) (hn1 : now ≤ 18446744073709551615) (p : Option Addr) (m k : Nat) (ns : List Int) (hns : ns.length = m) (hr : Rs W L p (ints .u16 ns)) (hm : m ≤ 1000) :
    XF Try.prog W 13 #[.pointer (some ⟨x.c, 0, none⟩), .int .u64 now, .slice p m k] (x.blks ++ L) (fun v L' => ∃ (y : Ca) (ws : List Ow) (l : List Blk) (p : Option Addr) (k : Nat), y.Fine ∧ y.c = x.c ∧ x.st.ask now ns = (y.st, ws.map Ow.bs) ∧ v = .slice p ws.length k ∧ SlO 1 31 (.slice p ws.length k) ws.length (ws.map Ow.v) l ∧ (∀ w, w ∈ ws → w.Is) ∧ ws.length ≤ 1000 ∧ L' = y.blks ++ (l ++ (ws.flatMap Ow.l ++ L))) :=
  (xf_ask x hx.ok now hn0 hn1 p m k ns hns hr hm).mono fun v L' ⟨⟨i, y, v', ws, l⟩, ⟨h1, h2, h3, h4, h5, h6, h7⟩, hi, hv, hL⟩ => by
    dsimp only at *
    subst hv hL
    obtain ⟨p, k, rfl, h5, _⟩ := h5.opn
    rw [List.take_of_length_le (by omega)] at h4
    exact ⟨y, ws, l, p, k, ⟨h2, by
      have g := ask_fit now ns (x.st, [])
      rw [h4] at g
      have g1 : y.size = x.size := g.1
      have g2 := g.2.2
      simp only [Ca.st, List.length_map] at g2
      have := hx.fit
      omega⟩, h3, h4, rfl, h5, h6, by omega, rfl⟩
theorem Ca.ps_n (x : Ca) : x.ps.map Pk.n = x.st.l.map Pp.n := by simp [Ca.st, Pk.pp]
theorem Ca.ps_len (x : Ca) : x.ps.length = x.st.l.length := by simp [Ca.st]
theorem xf_numbersr {W : World} {L : List Blk} (x : Ca) (hx : x.Fine) : XF Try.prog W 25 #[.pointer (some ⟨x.c, 0, none⟩)] (x.blks ++ L) (fun v L' => ∃ p k l, v = .slice p x.st.l.length k ∧ SlO 1 30 (.slice p x.st.l.length k) x.st.l.length (ints .u16 (x.st.l.map Pp.n)) l ∧ x.st.l.length ≤ k ∧ L' = l ++ (x.blks ++ L)) := by
  rw [← x.ps_len, ← x.ps_n]
  exact xf_numbers x hx.ok
theorem ows1 {ws : List Ow} {a : List Int} (h : ws.map Ow.bs = [a]) : ∃ w, ws = [w] ∧ w.bs = a := by
  match ws, h with
  | [w], h => exact ⟨w, rfl, by simpa using h⟩
theorem ows2 {ws : List Ow} {a b : List Int} (h : ws.map Ow.bs = [a, b]) : ∃ w u, ws = [w, u] ∧ w.bs = a ∧ u.bs = b := by
  match ws, h with
  | [w, u], h => exact ⟨w, u, rfl, by simpa using h⟩
set_option maxHeartbeats 4000000 in
theorem xf_works0 {W : World} : XF Try.prog W 10 #[] [] (fun v L' => v = .bool true) := by
  refine xf_enter (args := []) Try.func10 rfl Try.ntmps10 rfl ?_
  focus
    refine xc_seq ?_
    refine xc_region ?_
    refine xo_rd (rd_assign rfl) rfl ?_
    refine xo_nil ?_
    refine xq_seq ?_
    refine xc_seq ?_
    refine xc_region ?_
  refine xo_ef rfl (ef_call rfl (XF.mono (xf_new 2 10 (by omega) (by omega)) ?_))
  rintro v L' ⟨x, hx, rfl, hst, rfl⟩
  have hf : x.Fine := ⟨hx, by have h1 : x.ps.length = 0 := (by have := congrArg (fun s => s.l.length) hst; simpa [Ca.st] using this); have := hx.sz; omega⟩
  focus
    refine xo_rd (rd_move rfl) rfl ?_
    refine xo_rd (rd_extract rfl rfl) rfl ?_
    refine xo_rd (rd_extract rfl rfl) rfl ?_
    refine xo_rd (rd_assign rfl) rfl ?_
    refine xo_rd (rd_assign rfl) rfl ?_
    refine xo_nil ?_
    refine xq_seq ?_
    refine xc_seq ?_
    refine xc_seq ?_
    refine xc_region ?_
    refine xo_rd (rd_move rfl) rfl ?_
    refine xo_rd (rd_neq rfl rfl) rfl ?_
    refine xo_nil ?_
    refine xq_seq ?_
    refine xc_condf rfl ?_
    refine xc_skip ?_
    refine xq_seq ?_
    refine xc_seq ?_
    refine xc_region ?_
    refine xo_rd (rd_move rfl) rfl ?_
    refine xo_ef rfl (ef_slice1 rfl rfl rfl fun r16 => ?_)
    refine xo_ef rfl (ef_convMark [] _ rfl rfl fun frr17 => ?_)
  refine xo_ef rfl (ef_call rfl (XF.mono (XF.seg [_] x.blks [] (xf_putr x hf 5 _ 1 1 [97] rfl (Rs.fresh (List.Mem.head _)) (by decide))) ?_))
  rintro v L' ⟨rfl, x1, hf1, hc1, hst1, rfl⟩
  rw [hst] at hst1
  rw [← hc1]
  refine xo_sub (L' := x1.blks ++ []) (by simp) ?_
  focus
    refine xo_nil ?_
    refine xq_seq ?_
    refine xc_seq ?_
    refine xc_region ?_
    refine xo_rd (rd_move rfl) rfl ?_
    refine xo_ef rfl (ef_slice1 rfl rfl rfl fun r20 => ?_)
    refine xo_ef rfl (ef_convMark [] _ rfl rfl fun frr21 => ?_)
  refine xo_ef rfl (ef_call rfl (XF.mono (XF.seg [_] x1.blks [] (xf_putr x1 hf1 6 _ 1 1 [98] rfl (Rs.fresh (List.Mem.head _)) (by decide))) ?_))
  rintro v L' ⟨rfl, x2, hf2, hc2, hst2, rfl⟩
  rw [hst1] at hst2
  rw [← hc2]
  refine xo_sub (L' := x2.blks ++ []) (by simp) ?_
  focus
    refine xo_nil ?_
    refine xq_seq ?_
    refine xc_seq ?_
    refine xc_region ?_
    refine xo_rd (rd_move rfl) rfl ?_
    refine xo_ef rfl (ef_slice1 rfl rfl rfl fun r24 => ?_)
    refine xo_ef rfl (ef_convMark [] _ rfl rfl fun frr25 => ?_)
  refine xo_ef rfl (ef_call rfl (XF.mono (XF.seg [_] x2.blks [] (xf_putr x2 hf2 7 _ 1 1 [99] rfl (Rs.fresh (List.Mem.head _)) (by decide))) ?_))
  rintro v L' ⟨rfl, x3, hf3, hc3, hst3, rfl⟩
  rw [hst2] at hst3
  rw [← hc3]
  refine xo_sub (L' := x3.blks ++ []) (by simp) ?_
  have e3 : x3.st = ⟨2, 10, [⟨6, [98], false, 0⟩, ⟨7, [99], false, 0⟩]⟩ := hst3.trans (by first | rfl | simp [Sta.put, cutTo])
  focus
    refine xo_nil ?_
    refine xq_seq ?_
    refine xc_seq ?_
    refine xc_region ?_
    refine xo_rd (rd_move rfl) rfl ?_
  refine xo_ef rfl (ef_call rfl (XF.mono (xf_numbersr x3 hf3) ?_))
  rintro v L' ⟨p, k, l, rfl, hO, hk, rfl⟩
  have hlen : x3.st.l.length = 2 := by rw [e3]; rfl
  have hns : x3.st.l.map Pp.n = [6, 7] := by rw [e3]; rfl
  rw [hlen] at hO hk
  rw [hns] at hO
  rw [hlen]
  obtain ⟨b, o, rfl, hc⟩ := (hO.rsl (W := W) (R := x3.blks ++ [])).at (j := 0) (by decide)
  focus
    refine xo_rd (rd_assign rfl) rfl ?_
    refine xo_nil ?_
    refine xq_seq ?_
    refine xc_seq ?_
    refine xc_seq ?_
    refine xc_region ?_
    refine xo_rd (rd_move rfl) rfl ?_
    refine xo_rd (rd_len rfl) rfl ?_
    refine xo_rd (rd_neq rfl rfl) rfl ?_
    refine xo_rd (rd_move rfl) rfl ?_
    refine xo_grd rfl rfl (rd_move rfl) rfl ?_
    refine xo_grd rfl rfl (rd_indexAddr rfl rfl (by omega) (by omega)) rfl ?_
    refine xo_grd rfl rfl (rd_load1 rfl (hc 0 _ rfl)) rfl ?_
    refine xo_grd rfl rfl (rd_neq rfl rfl) rfl ?_
    refine xo_rd (rd_pickf rfl rfl) rfl ?_
    refine xo_rd (rd_move rfl) rfl ?_
    refine xo_grd rfl rfl (rd_move rfl) rfl ?_
    refine xo_grd rfl rfl (rd_indexAddr rfl rfl (by omega) (by omega)) rfl ?_
    refine xo_grd rfl rfl (rd_load1 rfl (hc 1 _ rfl)) rfl ?_
    refine xo_grd rfl rfl (rd_neq rfl rfl) rfl ?_
    refine xo_rd (rd_pickf rfl rfl) rfl ?_
    refine xo_nil ?_
    refine xq_seq ?_
    refine xc_condf rfl ?_
    refine xc_skip ?_
    refine xq_seq ?_
  refine xc_sub (L' := x3.blks ++ []) (List.sublist_append_right _ _) ?_
  focus
    refine xc_seq ?_
    refine xc_region ?_
    refine xo_rd (rd_move rfl) rfl ?_
    refine xo_ef rfl (ef_buildL (T := 32) (s := 1) (cells := (ints .u16 [5, 7, 7, 6]).toArray) rfl (by decide) (by decide) (by kernel_rfl) fun rn => ?_)
  refine xo_ef rfl (ef_call rfl (XF.mono (XF.seg [_] x3.blks [] (xf_askr x3 hf3 0 (by omega) (by omega) _ 4 4 [5, 7, 7, 6] rfl (Rs.fresh (List.Mem.head _)) (by decide))) ?_))
  rintro v L' ⟨y1, ws1, l1, p1, k1, hy1, hd1, ha1, rfl, hO1, hw1, hn1, rfl⟩
  rw [← hd1]
  have f1 : x3.st.ask 0 [5, 7, 7, 6] = (⟨2, 10, [⟨6, [98], true, 0⟩, ⟨7, [99], true, 0⟩]⟩, [[99], [98]]) := by rw [e3]; rfl
  rw [f1, Prod.mk.injEq] at ha1
  obtain ⟨hs1, hb1⟩ := ha1
  obtain ⟨w0, w1, rfl, hw0b, hw1b⟩ := ows2 hb1.symm
  rw [show [w0, w1].length = 2 from rfl] at hO1 ⊢
  refine xo_sub (L' := y1.blks ++ (l1 ++ (w0.l ++ w1.l))) (by simp) ?_
  focus
    refine xo_rd (rd_move rfl) rfl ?_
    refine xo_ef rfl (ef_slice1 rfl rfl rfl fun r48 => ?_)
  refine xo_ef rfl (ef_call rfl (XF.mono (XF.seg [_] y1.blks _ (xf_askr y1 hy1 9 (by omega) (by omega) _ 1 1 [6] rfl (Rs.fresh (List.Mem.head _)) (by decide))) ?_))
  rintro v L' ⟨y2, ws2, l2, p2, k2, hy2, hd2, ha2, rfl, hO2, hw2, hn2, rfl⟩
  rw [← hd2]
  have f2 : y1.st.ask 9 [6] = (⟨2, 10, [⟨6, [98], true, 0⟩, ⟨7, [99], true, 0⟩]⟩, []) := by rw [← hs1]; rfl
  rw [f2, Prod.mk.injEq] at ha2
  obtain ⟨hs2, hb2⟩ := ha2
  have hws2 : ws2 = [] := by simpa using hb2.symm
  subst hws2
  rw [show ([] : List Ow).length = 0 from rfl] at hO2 ⊢
  refine xo_sub (L' := y2.blks ++ (l1 ++ (w0.l ++ w1.l))) (by simp) ?_
  focus
    refine xo_rd (rd_move rfl) rfl ?_
    refine xo_ef rfl (ef_slice1 rfl rfl rfl fun r51 => ?_)
  refine xo_ef rfl (ef_call rfl (XF.mono (XF.seg [_] y2.blks _ (xf_askr y2 hy2 10 (by omega) (by omega) _ 1 1 [6] rfl (Rs.fresh (List.Mem.head _)) (by decide))) ?_))
  rintro v L' ⟨y3, ws3, l3, p3, k3, hy3, hd3, ha3, rfl, hO3, hw3, hn3, rfl⟩
  rw [← hd3]
  have f3 : y2.st.ask 10 [6] = (⟨2, 10, [⟨6, [98], true, 10⟩, ⟨7, [99], true, 0⟩]⟩, [[98]]) := by rw [← hs2]; rfl
  rw [f3, Prod.mk.injEq] at ha3
  obtain ⟨hs3, hb3⟩ := ha3
  obtain ⟨u0, rfl, hu0b⟩ := ows1 hb3.symm
  rw [show [u0].length = 1 from rfl] at hO3 ⊢
  refine xo_sub (L' := y3.blks ++ (l3 ++ (u0.l ++ (l1 ++ (w0.l ++ w1.l))))) (by simp) ?_
  focus
    refine xo_rd (rd_assign rfl) rfl ?_
    refine xo_rd (rd_assign rfl) rfl ?_
    refine xo_rd (rd_assign rfl) rfl ?_
    refine xo_nil ?_
    refine xq_seq ?_
    refine xc_seq ?_
    refine xc_region ?_
    refine xo_rd (rd_move rfl) rfl ?_
    refine xo_ef rfl (ef_slice1 rfl rfl rfl fun r54 => ?_)
    refine xo_ef rfl (ef_convMark [] _ rfl rfl fun frr55 => ?_)
  refine xo_ef rfl (ef_call rfl (XF.mono (XF.seg [_] y3.blks _ (xf_putr y3 hy3 6 _ 1 1 [100] rfl (Rs.fresh (List.Mem.head _)) (by decide))) ?_))
  rintro v L' ⟨rfl, y4, hy4, hd4, hs4, rfl⟩
  rw [← hd4]
  refine xo_sub (L' := y4.blks ++ (l3 ++ (u0.l ++ (l1 ++ (w0.l ++ w1.l))))) (by simp) ?_
  have e4 : y4.st = ⟨2, 10, [⟨7, [99], true, 0⟩, ⟨6, [100], false, 0⟩]⟩ := hs4.trans (by rw [← hs3]; rfl)
  focus
    refine xo_nil ?_
    refine xq_seq ?_
    refine xc_seq ?_
    refine xc_region ?_
    refine xo_rd (rd_move rfl) rfl ?_
  refine xo_ef rfl (ef_call rfl (XF.mono (xf_numbersr y4 hy4) ?_))
  rintro v L' ⟨p4, k4, l4, rfl, hO4, hk4, rfl⟩
  have hlen4 : y4.st.l.length = 2 := by rw [e4]; rfl
  have hns4 : y4.st.l.map Pp.n = [7, 6] := by rw [e4]; rfl
  rw [hlen4] at hO4 hk4
  rw [hns4] at hO4
  rw [hlen4]
  focus
    refine xo_rd (rd_move rfl) rfl ?_
    refine xo_ef rfl (ef_slice1 rfl rfl rfl fun r60 => ?_)
  refine xo_ef rfl (ef_call rfl (XF.mono (XF.seg (_ :: l4) y4.blks _ (xf_askr y4 hy4 11 (by omega) (by omega) _ 1 1 [6] rfl (Rs.fresh (List.Mem.head _)) (by decide))) ?_))
  rintro v L' ⟨y5, ws5, l5, p5, k5, hy5, hd5, ha5, rfl, hO5, hw5, hn5, rfl⟩
  have f5 : y4.st.ask 11 [6] = (⟨2, 10, [⟨7, [99], true, 0⟩, ⟨6, [100], true, 11⟩]⟩, [[100]]) := by rw [e4]; rfl
  rw [f5, Prod.mk.injEq] at ha5
  obtain ⟨hs5, hb5⟩ := ha5
  obtain ⟨v0, rfl, hv0b⟩ := ows1 hb5.symm
  rw [show [v0].length = 1 from rfl] at hO5 ⊢
  refine xo_sub (L' := l5 ++ (v0.l ++ (l4 ++ (l3 ++ (u0.l ++ (l1 ++ (w0.l ++ w1.l))))))) (by simp) ?_
  obtain ⟨wv0, wb0, wl0⟩ := w0
  obtain ⟨wv1, wb1, wl1⟩ := w1
  obtain ⟨uv0, ub0, ul0⟩ := u0
  obtain ⟨vv0, vb0, vl0⟩ := v0
  dsimp only at hw0b hw1b hu0b hv0b ⊢
  subst hw0b hw1b hu0b hv0b
  obtain ⟨qa, ka, hva, hA, _⟩ := (hw1 _ (List.Mem.head _)).o.opn
  obtain ⟨qb, kb, hvb, hB, _⟩ := (hw1 _ (List.Mem.tail _ (List.Mem.head _))).o.opn
  obtain ⟨qc, kc, hvc, hC, _⟩ := (hw3 _ (List.Mem.head _)).o.opn
  obtain ⟨qd, kd, hvd, hD, _⟩ := (hw5 _ (List.Mem.head _)).o.opn
  dsimp only at hva hvb hvc hvd hA hB hC hD
  subst hva hvb hvc hvd
  have rA : Rs W (l5 ++ (vl0 ++ (l4 ++ (l3 ++ (ul0 ++ (l1 ++ (wl0 ++ wl1))))))) qa (ints .u8 [99]) := hA.rs (by intro z hz; simp [hz])
  have rB : Rs W (l5 ++ (vl0 ++ (l4 ++ (l3 ++ (ul0 ++ (l1 ++ (wl0 ++ wl1))))))) qb (ints .u8 [98]) := hB.rs (by intro z hz; simp [hz])
  have rC : Rs W (l5 ++ (vl0 ++ (l4 ++ (l3 ++ (ul0 ++ (l1 ++ (wl0 ++ wl1))))))) qc (ints .u8 [98]) := hC.rs (by intro z hz; simp [hz])
  have rD : Rs W (l5 ++ (vl0 ++ (l4 ++ (l3 ++ (ul0 ++ (l1 ++ (wl0 ++ wl1))))))) qd (ints .u8 [100]) := hD.rs (by intro z hz; simp [hz])
  obtain ⟨b1, o1, rfl, c1⟩ := (hO1.rs (W := W) (L := l5 ++ (vl0 ++ (l4 ++ (l3 ++ (ul0 ++ (l1 ++ (wl0 ++ wl1))))))) (by intro z hz; simp [hz])).at (j := 0) (Nat.succ_pos _)
  obtain ⟨b3, o3, rfl, c3⟩ := (hO3.rs (W := W) (L := l5 ++ (vl0 ++ (l4 ++ (l3 ++ (ul0 ++ (l1 ++ (wl0 ++ wl1))))))) (by intro z hz; simp [hz])).at (j := 0) (Nat.succ_pos _)
  obtain ⟨b4, o4, rfl, c4⟩ := (hO4.rs (W := W) (L := l5 ++ (vl0 ++ (l4 ++ (l3 ++ (ul0 ++ (l1 ++ (wl0 ++ wl1))))))) (by intro z hz; simp [hz])).at (j := 0) (Nat.succ_pos _)
  obtain ⟨b5, o5, rfl, c5⟩ := (hO5.rs (W := W) (L := l5 ++ (vl0 ++ (l4 ++ (l3 ++ (ul0 ++ (l1 ++ (wl0 ++ wl1))))))) (by intro z hz; simp [hz])).at (j := 0) (Nat.succ_pos _)
  focus
    refine xo_rd (rd_assign rfl) rfl ?_
    refine xo_rd (rd_assign rfl) rfl ?_
    refine xo_nil ?_
    refine xq_seq ?_
    refine xc_seq ?_
    refine xc_region ?_
    refine xo_rd (rd_move rfl) rfl ?_
    refine xo_rd (rd_len rfl) rfl ?_
    refine xo_rd (rd_eql rfl rfl) rfl ?_
    refine xo_rd (rd_move rfl) rfl ?_
    refine xo_grd rfl rfl (rd_move rfl) rfl ?_
    refine xo_grd rfl rfl (rd_indexAddr rfl rfl (by omega) (by omega)) rfl ?_
    refine xo_grd rfl rfl (rd_load1 rfl (c1 0 _ rfl)) rfl ?_
    refine xo_grd rfl rfl (rd_convStr rA rfl rfl) rfl ?_
    refine xo_grd rfl rfl (rd_eqs rfl rfl) rfl ?_
    refine xo_rd (rd_pickt rfl rfl) rfl ?_
    refine xo_rd (rd_move rfl) rfl ?_
    refine xo_grd rfl rfl (rd_move rfl) rfl ?_
    refine xo_grd rfl rfl (rd_indexAddr rfl rfl (by omega) (by omega)) rfl ?_
    refine xo_grd rfl rfl (rd_load1 rfl (c1 1 _ rfl)) rfl ?_
    refine xo_grd rfl rfl (rd_convStr rB rfl rfl) rfl ?_
    refine xo_grd rfl rfl (rd_eqs rfl rfl) rfl ?_
    refine xo_rd (rd_pickt rfl rfl) rfl ?_
    refine xo_rd (rd_move rfl) rfl ?_
    refine xo_grd rfl rfl (rd_move rfl) rfl ?_
    refine xo_grd rfl rfl (rd_len rfl) rfl ?_
    refine xo_grd rfl rfl (rd_eql rfl rfl) rfl ?_
    refine xo_rd (rd_pickt rfl rfl) rfl ?_
    refine xo_rd (rd_move rfl) rfl ?_
    refine xo_grd rfl rfl (rd_move rfl) rfl ?_
    refine xo_grd rfl rfl (rd_len rfl) rfl ?_
    refine xo_grd rfl rfl (rd_eql rfl rfl) rfl ?_
    refine xo_rd (rd_pickt rfl rfl) rfl ?_
    refine xo_rd (rd_move rfl) rfl ?_
    refine xo_grd rfl rfl (rd_move rfl) rfl ?_
    refine xo_grd rfl rfl (rd_indexAddr rfl rfl (by omega) (by omega)) rfl ?_
    refine xo_grd rfl rfl (rd_load1 rfl (c3 0 _ rfl)) rfl ?_
    refine xo_grd rfl rfl (rd_convStr rC rfl rfl) rfl ?_
    refine xo_grd rfl rfl (rd_eqs rfl rfl) rfl ?_
    refine xo_rd (rd_pickt rfl rfl) rfl ?_
    refine xo_rd (rd_move rfl) rfl ?_
    refine xo_grd rfl rfl (rd_move rfl) rfl ?_
    refine xo_grd rfl rfl (rd_len rfl) rfl ?_
    refine xo_grd rfl rfl (rd_eql rfl rfl) rfl ?_
    refine xo_rd (rd_pickt rfl rfl) rfl ?_
    refine xo_rd (rd_move rfl) rfl ?_
    refine xo_grd rfl rfl (rd_move rfl) rfl ?_
    refine xo_grd rfl rfl (rd_indexAddr rfl rfl (by omega) (by omega)) rfl ?_
    refine xo_grd rfl rfl (rd_load1 rfl (c4 0 _ rfl)) rfl ?_
    refine xo_grd rfl rfl (rd_eql rfl rfl) rfl ?_
    refine xo_rd (rd_pickt rfl rfl) rfl ?_
    refine xo_rd (rd_move rfl) rfl ?_
    refine xo_grd rfl rfl (rd_move rfl) rfl ?_
    refine xo_grd rfl rfl (rd_indexAddr rfl rfl (by omega) (by omega)) rfl ?_
    refine xo_grd rfl rfl (rd_load1 rfl (c4 1 _ rfl)) rfl ?_
    refine xo_grd rfl rfl (rd_eql rfl rfl) rfl ?_
    refine xo_rd (rd_pickt rfl rfl) rfl ?_
    refine xo_rd (rd_move rfl) rfl ?_
    refine xo_grd rfl rfl (rd_move rfl) rfl ?_
    refine xo_grd rfl rfl (rd_len rfl) rfl ?_
    refine xo_grd rfl rfl (rd_eql rfl rfl) rfl ?_
    refine xo_rd (rd_pickt rfl rfl) rfl ?_
    refine xo_rd (rd_move rfl) rfl ?_
    refine xo_grd rfl rfl (rd_move rfl) rfl ?_
    refine xo_grd rfl rfl (rd_indexAddr rfl rfl (by omega) (by omega)) rfl ?_
    refine xo_grd rfl rfl (rd_load1 rfl (c5 0 _ rfl)) rfl ?_
    refine xo_grd rfl rfl (rd_convStr rD rfl rfl) rfl ?_
    refine xo_grd rfl rfl (rd_eqs rfl rfl) rfl ?_
    refine xo_rd (rd_pickt rfl rfl) rfl ?_
    refine xo_rd (rd_assign rfl) rfl ?_
    refine xo_nil ?_
    refine xq_seq ?_
    refine xc_ret ?_
    exact xq_ret1 (.inl rfl) Try.results10 rfl (rfl)
  done
end Go.Proofs.Ytmjklmjdmocaiaa.X
