/-
  The cache's Ask, by a walk of my own.
-/
import Derived.Test.YtmjklmjdmocaiaaA5
namespace Go.Proofs.Ytmjklmjdmocaiaa.X
open Go Go.RowKit
set_option linter.unusedVariables false
set_option linter.unusedSimpArgs false
/-- Rows of bytes in memory of one's own. -/
structure Ow where
  v : Value
  bs : List Int
  l : List Blk
structure Ow.Is (w : Ow) : Prop where
  o : SlO 1 5 w.v w.bs.length (ints .u8 w.bs) w.l
  len : w.bs.length ≤ 1000
def Ca.withp (x : Ca) (ps : List Pk) : Ca := ⟨x.size, x.hold, ps, x.c, x.nv, x.nl, x.mb, x.mo⟩
theorem Ca.withp_self (x : Ca) {ps : List Pk} (h : x.ps = ps) : x.withp ps = x := by subst h; rfl
theorem Ca.open_perm (x : Ca) (ps1 ps2 : List Pk) (p : Pk) (R : List Blk) : ((p.b, .cells p.cells.toArray 67 (0, 0)) :: (p.l ++ ((x.c, .cells x.cells.toArray 62 (0, 0)) :: (x.mb, x.mo) :: (x.nl ++ (ps1.flatMap Pk.blks ++ (ps2.flatMap Pk.blks ++ R)))))).Perm ((x.withp (ps1 ++ p :: ps2)).blks ++ R) := by
  rw [Ca.blks_app]
  have hb : p.blks = (p.b, .cells p.cells.toArray 67 (0, 0)) :: p.l := rfl
  have hc : (x.withp (ps1 ++ p :: ps2)).cells = x.cells := rfl
  rw [hc]
  dsimp only [Ca.withp]
  rw [List.flatMap_append, List.flatMap_cons, hb]
  exact (by classical exact List.perm_iff_count.2 fun a => by simp only [List.append_eq, List.count_append, List.count_cons, List.count_nil, List.cons_append, List.nil_append, List.flatMap_append, List.flatMap_cons, List.flatMap_nil, List.append_nil]; omega)
def Pk.told (now : Int) (p : Pk) : Pk := ⟨p.n, p.bs, true, mx now p.tick, p.b, p.v, p.l⟩
theorem mx_le {i j t : Int} (h1 : i ≤ t) (h2 : j ≤ t) : mx i j ≤ t := by unfold mx; split <;> assumption
theorem le_mx (i j : Int) : j ≤ mx i j := by unfold mx; split <;> omega
theorem Ca.told_ok (x : Ca) (hx : x.Ok) {ps1 ps2 : List Pk} {p : Pk} (h : x.ps = ps1 ++ p :: ps2) (now : Int) (hn : now ≤ 18446744073709551615) : (x.withp (ps1 ++ p.told now :: ps2)).Ok := by
  have hlen : (ps1 ++ p.told now :: ps2).length = x.ps.length := by rw [h]; simp
  have hmap : (ps1 ++ p.told now :: ps2).map Pk.n = x.ps.map Pk.n := by rw [h]; simp [Pk.told]
  have hptr : ptrAt (ps1 ++ p.told now :: ps2) = ptrAt x.ps := by
    funext m
    rw [h]
    unfold ptrAt
    rw [List.find?_append, List.find?_append, List.find?_cons, List.find?_cons]
    have : ((p.told now).n == m) = (p.n == m) := rfl
    rw [this]
    cases hf : ps1.find? (fun q => q.n == m) with
    | some _ => rfl
    | none =>
      cases hb : p.n == m
      · rfl
      · rfl
  obtain ⟨a1, a2, a3, a4, a5, a6, a7⟩ := hx
  refine ⟨?_, ?_, ?_, ?_, ?_, a6, a7⟩
  · dsimp only [Ca.withp]; rw [hlen, hmap]; exact a1
  · dsimp only [Ca.withp]; rw [hlen, hptr]; exact a2
  · dsimp only [Ca.withp]; rw [hmap]; exact a3
  · intro q hq
    rcases List.mem_append.1 hq with hq | hq
    · exact a4 q (by rw [h]; simp [hq])
    · rcases List.mem_cons.1 hq with rfl | hq
      · have hp := a4 p (by rw [h]; simp)
        have := le_mx now p.tick
        have := hp.t0
        exact ⟨hp.o, hp.len, by dsimp only [Pk.told]; omega, mx_le hn hp.t1⟩
      · exact a4 q (by rw [h]; simp [hq])
  · dsimp only [Ca.withp]; rw [hlen]; exact a5
theorem Ca.told_st (x : Ca) (hx : x.Ok) {ps1 ps2 : List Pk} {p : Pk} (h : x.ps = ps1 ++ p :: ps2) (now n : Int) (hn : p.n = n) : (x.withp (ps1 ++ p.told now :: ps2)).st = ⟨x.st.size, x.st.hold, x.st.l.map (Pp.ask now n)⟩ := by
  have hnod := hx.nod
  rw [h, List.map_append, List.map_cons] at hnod
  have h2 := List.nodup_append.1 hnod
  have h3 := List.nodup_cons.1 h2.2.1
  have e1 : ∀ q, q ∈ ps1 → Pp.ask now n q.pp = q.pp := fun q hq => by
    unfold Pp.ask
    rw [if_neg]
    intro e
    exact h2.2.2 q.n (List.mem_map.2 ⟨q, hq, rfl⟩) p.n (by simp) (by rw [hn]; exact e)
  have e2 : ∀ q, q ∈ ps2 → Pp.ask now n q.pp = q.pp := fun q hq => by
    unfold Pp.ask
    rw [if_neg]
    intro e
    exact h3.1 (List.mem_map.2 ⟨q, hq, by rw [hn]; exact e⟩)
  unfold Ca.st Ca.withp
  dsimp only
  rw [h]
  simp only [Sta.mk.injEq, true_and, List.map_append, List.map_cons, List.map_map]
  congr 1
  · exact List.map_congr_left fun q hq => (e1 q hq).symm
  · congr 1
    · show _ = if p.n = n then _ else _
      rw [if_pos hn]; rfl
    · exact List.map_congr_left fun q hq => (e2 q hq).symm

structure AskS where
  i : Nat
  y : Ca
  v : Value
  ws : List Ow
  l : List Blk
structure AskI (x : Ca) (now : Int) (ns : List Int) (s : AskS) : Prop where
  i : s.i ≤ ns.length
  ok : s.y.Ok
  c : s.y.c = x.c
  st : (ns.take s.i).foldl (Sta.ask1 now) (x.st, []) = (s.y.st, s.ws.map Ow.bs)
  o : SlO 1 31 s.v s.ws.length (s.ws.map Ow.v) s.l
  ws : ∀ w, w ∈ s.ws → w.Is
  wl : s.ws.length ≤ s.i
def AskS.L (s : AskS) (L : List Blk) : List Blk := s.y.blks ++ (s.l ++ (s.ws.flatMap Ow.l ++ L))
set_option maxHeartbeats 4000000 in
theorem xf_ask {W : World} {L : List Blk} (x : Ca) (hx : x.Ok) (now : Int) (hn0 : 0 ≤ now) (hn1 : now ≤ 18446744073709551615) (p : Option Addr) (m k : Nat) (ns : List Int) (hns : ns.length = m) (hr : Rs W L p (ints .u16 ns)) (hm : m ≤ 1000) :
    XF Try.prog W 13 #[.pointer (some ⟨x.c, 0, none⟩), .int .u64 now, .slice p m k] (x.blks ++ L) (fun v L' => ∃ s, AskI x now ns s ∧ s.i = m ∧ v = s.v ∧ L' = s.L L) := by
  refine xf_enter (args := [_, _, _]) Try.func13 rfl Try.ntmps13 rfl ?_
  focus
    refine xc_seq ?_
    refine xc_region ?_
    refine xo_rd (rd_assign rfl) rfl ?_
    refine xo_nil ?_
    refine xq_seq ?_
    refine xc_seq ?_
    refine xc_seq ?_
    refine xc_region ?_
    refine xo_rd (rd_move rfl) rfl ?_
    refine xo_rd (rd_len rfl) rfl ?_
    refine xo_rd (rd_move rfl) rfl ?_
    refine xo_nil ?_
    refine xq_seq ?_
    refine xc_block ?_
  refine xc_loopI (ι := AskS) (AskI x now ns) (fun s => m - s.i) (fun s => s.L L) (fun s => [(0, .pointer (some ⟨x.c, 0, none⟩)), (1, .int .u64 now), (6, s.v), (10, .slice p m k), (11, .int .i64 m), (12, .int .i64 s.i)]) ⟨0, x, .slice none 0 0, [], []⟩ ⟨Nat.zero_le _, hx, rfl, rfl, SlO.nil, (fun _ h => by cases h), Nat.le_refl _⟩ rfl (by repeat (first | exact keep_nil | refine keep_cons rfl ?_)) ?_
  rintro ⟨i, y, v, ws, l⟩ hI
  have hI' := hI
  obtain ⟨hi, hok, hc, hst, hO, hws, hwl⟩ := hI'
  dsimp only at *
  rw [← hc]
  focus
    refine xc_seq ?_
    refine xc_region ?_
    refine xo_rd (rd_lss rfl rfl) rfl ?_
    refine xo_nil ?_
    refine xq_seq ?_
    refine xc_seq ?_
    refine xc_dec rfl (fun hi1 => ?_) (fun hi1 => ?_)
    refine xc_skip ?_
    refine xq_seq ?_
    refine xc_seq ?_
    refine xc_block ?_
    refine xc_seq ?_
    refine xc_region ?_
    rotate_left
    refine xc_exit ?_
    refine xq_then_exit ?_
    refine xq_then_exit ?_
    refine xq_block_hit ?_
    refine xq_seq ?_
    refine xc_seq ?_
    refine xc_region ?_
    refine xo_rd (rd_move rfl) rfl ?_
    refine xo_rd (rd_assign rfl) rfl ?_
    refine xo_nil ?_
    refine xq_seq ?_
    refine xc_ret ?_
    rotate_left
  · have hr' : Rs W (AskS.L ⟨i, y, v, ws, l⟩ L) p (ints .u16 ns) := hr.mono (by intro z hz; simp [AskS.L, hz])
    obtain ⟨b, o, hp, hcl⟩ := hr'.int (i := i) (by omega)
    subst hp
    have hstep : (ns.take (i + 1)).foldl (Sta.ask1 now) (x.st, []) = Sta.ask1 now (y.st, ws.map Ow.bs) ns[i] := by
      rw [List.take_add_one, List.getElem?_eq_getElem (by omega)]
      simp only [Option.toList_some, List.foldl_append, List.foldl_cons, List.foldl_nil, hst]
    generalize ns[i] = n at *
    rcases y.has_cases n with ⟨h1, h2⟩ | ⟨q, ps1, ps2, h0, h1, h2, h3, h4⟩
    · skip
      focus
        refine xo_rd (rd_indexAddr rfl rfl (by omega) (by omega)) rfl ?_
        refine xo_rd (rd_load1 rfl hcl) rfl ?_
        refine xo_rd (rd_assign rfl) rfl ?_
        refine xo_nil ?_
        refine xq_seq ?_
        refine xc_seq ?_
        refine xc_region ?_
        refine xo_rd (rd_move rfl) rfl ?_
        refine xo_rd (rd_move rfl) rfl ?_
        refine xo_ef rfl (ef_call rfl (XF.mono (xf_packet y hok n (.pointer none) (by rw [h1]; rfl)) ?_))
        rintro v L' ⟨rfl, rfl⟩
        refine xo_rd (rd_assign rfl) rfl ?_
        refine xo_nil ?_
        refine xq_seq ?_
        refine xc_seq ?_
        refine xc_seq ?_
        refine xc_drawML [0, 1, 2, 4, 12, 20, 36, 68, 128, 128, 640, 1152, 2176, 4480, 128, 16512, 32896, 65664, 139392, 128, 524416, 1048704, 2097280, 4456576, 8388740, 16777220] [0, 1, 2, 4, 12, 20, 36, 68, 128, 128, 640, 1152, 2176, 4480, 128, 16512, 32896, 65664, 139392, 128, 524416, 1048704, 2097280, 4456576, 8388740, 16777220] (by kernel_rfl) (by kernel_rfl) (by kernel_rfl) ?_
        refine xm_take 0 (m' := 1) rfl (by kernel_rfl) (by first | exact Sb.refl | exact Sb.nil | (repeat (first | exact Sb.nil | exact Sb.refl | exact Sb.app0 | apply Sb.keep | apply Sb.keepApp | apply Sb.cons | apply Sb.app))) (rd_move rfl) rfl (by kernel_rfl) ?_
        refine xm_take 1 (m' := 3) rfl (by kernel_rfl) (by first | exact Sb.refl | exact Sb.nil | (repeat (first | exact Sb.nil | exact Sb.refl | exact Sb.app0 | apply Sb.keep | apply Sb.keepApp | apply Sb.cons | apply Sb.app))) (rd_eqnil rfl) rfl (by kernel_rfl) ?_
        refine xm_take 2 (m' := 7) rfl (by kernel_rfl) (by first | exact Sb.refl | exact Sb.nil | (repeat (first | exact Sb.nil | exact Sb.refl | exact Sb.app0 | apply Sb.keep | apply Sb.keepApp | apply Sb.cons | apply Sb.app))) (rd_move rfl) rfl (by kernel_rfl) ?_
        refine xm_gskip 3 (m' := 15) rfl (by kernel_rfl) (by first | exact Sb.refl | exact Sb.nil | (repeat (first | exact Sb.nil | exact Sb.refl | exact Sb.app0 | apply Sb.keep | apply Sb.keepApp | apply Sb.cons | apply Sb.app))) rfl rfl rfl rfl (by kernel_rfl) ?_
        refine xm_gskip 4 (m' := 31) rfl (by kernel_rfl) (by first | exact Sb.refl | exact Sb.nil | (repeat (first | exact Sb.nil | exact Sb.refl | exact Sb.app0 | apply Sb.keep | apply Sb.keepApp | apply Sb.cons | apply Sb.app))) rfl rfl rfl rfl (by kernel_rfl) ?_
        refine xm_gskip 5 (m' := 63) rfl (by kernel_rfl) (by first | exact Sb.refl | exact Sb.nil | (repeat (first | exact Sb.nil | exact Sb.refl | exact Sb.app0 | apply Sb.keep | apply Sb.keepApp | apply Sb.cons | apply Sb.app))) rfl rfl rfl rfl (by kernel_rfl) ?_
        refine xm_gskip 6 (m' := 127) rfl (by kernel_rfl) (by first | exact Sb.refl | exact Sb.nil | (repeat (first | exact Sb.nil | exact Sb.refl | exact Sb.app0 | apply Sb.keep | apply Sb.keepApp | apply Sb.cons | apply Sb.app))) rfl rfl rfl rfl (by kernel_rfl) ?_
        refine xm_gskip 7 (m' := 255) rfl (by kernel_rfl) (by first | exact Sb.refl | exact Sb.nil | (repeat (first | exact Sb.nil | exact Sb.refl | exact Sb.app0 | apply Sb.keep | apply Sb.keepApp | apply Sb.cons | apply Sb.app))) rfl rfl rfl rfl (by kernel_rfl) ?_
        refine xm_gskipU 8 (m' := 511) rfl (by kernel_rfl) (by first | exact Sb.refl | exact Sb.nil | (repeat (first | exact Sb.nil | exact Sb.refl | exact Sb.app0 | apply Sb.keep | apply Sb.keepApp | apply Sb.cons | apply Sb.app))) rfl rfl rfl (by kernel_rfl) ?_
        refine xm_gskipU 9 (m' := 1023) rfl (by kernel_rfl) (by first | exact Sb.refl | exact Sb.nil | (repeat (first | exact Sb.nil | exact Sb.refl | exact Sb.app0 | apply Sb.keep | apply Sb.keepApp | apply Sb.cons | apply Sb.app))) rfl rfl rfl (by kernel_rfl) ?_
        refine xm_gskipU 10 (m' := 2047) rfl (by kernel_rfl) (by first | exact Sb.refl | exact Sb.nil | (repeat (first | exact Sb.nil | exact Sb.refl | exact Sb.app0 | apply Sb.keep | apply Sb.keepApp | apply Sb.cons | apply Sb.app))) rfl rfl rfl (by kernel_rfl) ?_
        refine xm_gskipU 11 (m' := 4095) rfl (by kernel_rfl) (by first | exact Sb.refl | exact Sb.nil | (repeat (first | exact Sb.nil | exact Sb.refl | exact Sb.app0 | apply Sb.keep | apply Sb.keepApp | apply Sb.cons | apply Sb.app))) rfl rfl rfl (by kernel_rfl) ?_
        refine xm_gskipU 12 (m' := 8191) rfl (by kernel_rfl) (by first | exact Sb.refl | exact Sb.nil | (repeat (first | exact Sb.nil | exact Sb.refl | exact Sb.app0 | apply Sb.keep | apply Sb.keepApp | apply Sb.cons | apply Sb.app))) rfl rfl rfl (by kernel_rfl) ?_
        refine xm_gskipU 13 (m' := 16383) rfl (by kernel_rfl) (by first | exact Sb.refl | exact Sb.nil | (repeat (first | exact Sb.nil | exact Sb.refl | exact Sb.app0 | apply Sb.keep | apply Sb.keepApp | apply Sb.cons | apply Sb.app))) rfl rfl rfl (by kernel_rfl) ?_
        refine xm_gskipU 14 (m' := 32767) rfl (by kernel_rfl) (by first | exact Sb.refl | exact Sb.nil | (repeat (first | exact Sb.nil | exact Sb.refl | exact Sb.app0 | apply Sb.keep | apply Sb.keepApp | apply Sb.cons | apply Sb.app))) rfl rfl rfl (by kernel_rfl) ?_
        refine xm_gskipU 15 (m' := 65535) rfl (by kernel_rfl) (by first | exact Sb.refl | exact Sb.nil | (repeat (first | exact Sb.nil | exact Sb.refl | exact Sb.app0 | apply Sb.keep | apply Sb.keepApp | apply Sb.cons | apply Sb.app))) rfl rfl rfl (by kernel_rfl) ?_
        refine xm_gskipU 16 (m' := 131071) rfl (by kernel_rfl) (by first | exact Sb.refl | exact Sb.nil | (repeat (first | exact Sb.nil | exact Sb.refl | exact Sb.app0 | apply Sb.keep | apply Sb.keepApp | apply Sb.cons | apply Sb.app))) rfl rfl rfl (by kernel_rfl) ?_
        refine xm_gskipU 17 (m' := 262143) rfl (by kernel_rfl) (by first | exact Sb.refl | exact Sb.nil | (repeat (first | exact Sb.nil | exact Sb.refl | exact Sb.app0 | apply Sb.keep | apply Sb.keepApp | apply Sb.cons | apply Sb.app))) rfl rfl rfl (by kernel_rfl) ?_
        refine xm_gskipU 18 (m' := 524287) rfl (by kernel_rfl) (by first | exact Sb.refl | exact Sb.nil | (repeat (first | exact Sb.nil | exact Sb.refl | exact Sb.app0 | apply Sb.keep | apply Sb.keepApp | apply Sb.cons | apply Sb.app))) rfl rfl rfl (by kernel_rfl) ?_
        refine xm_gskipU 19 (m' := 1048575) rfl (by kernel_rfl) (by first | exact Sb.refl | exact Sb.nil | (repeat (first | exact Sb.nil | exact Sb.refl | exact Sb.app0 | apply Sb.keep | apply Sb.keepApp | apply Sb.cons | apply Sb.app))) rfl rfl rfl (by kernel_rfl) ?_
        refine xm_gskipU 20 (m' := 2097151) rfl (by kernel_rfl) (by first | exact Sb.refl | exact Sb.nil | (repeat (first | exact Sb.nil | exact Sb.refl | exact Sb.app0 | apply Sb.keep | apply Sb.keepApp | apply Sb.cons | apply Sb.app))) rfl rfl rfl (by kernel_rfl) ?_
        refine xm_gskipU 21 (m' := 4194303) rfl (by kernel_rfl) (by first | exact Sb.refl | exact Sb.nil | (repeat (first | exact Sb.nil | exact Sb.refl | exact Sb.app0 | apply Sb.keep | apply Sb.keepApp | apply Sb.cons | apply Sb.app))) rfl rfl rfl (by kernel_rfl) ?_
        refine xm_gskipU 22 (m' := 8388607) rfl (by kernel_rfl) (by first | exact Sb.refl | exact Sb.nil | (repeat (first | exact Sb.nil | exact Sb.refl | exact Sb.app0 | apply Sb.keep | apply Sb.keepApp | apply Sb.cons | apply Sb.app))) rfl rfl rfl (by kernel_rfl) ?_
        refine xm_gskipU 23 (m' := 16777215) rfl (by kernel_rfl) (by first | exact Sb.refl | exact Sb.nil | (repeat (first | exact Sb.nil | exact Sb.refl | exact Sb.app0 | apply Sb.keep | apply Sb.keepApp | apply Sb.cons | apply Sb.app))) rfl rfl rfl (by kernel_rfl) ?_
        refine xm_gskip 24 (m' := 33554431) rfl (by kernel_rfl) (by first | exact Sb.refl | exact Sb.nil | (repeat (first | exact Sb.nil | exact Sb.refl | exact Sb.app0 | apply Sb.keep | apply Sb.keepApp | apply Sb.cons | apply Sb.app))) rfl rfl rfl rfl (by kernel_rfl) ?_
        refine xm_take 25 (m' := 67108863) rfl (by kernel_rfl) (by first | exact Sb.refl | exact Sb.nil | (repeat (first | exact Sb.nil | exact Sb.refl | exact Sb.app0 | apply Sb.keep | apply Sb.keepApp | apply Sb.cons | apply Sb.app))) (rd_pickt rfl rfl) rfl (by kernel_rfl) ?_
        refine xm_done (by kernel_rfl) ?_
        refine xq_seq ?_
        refine xc_condt rfl ?_
        refine xc_exit ?_
        refine xq_then_exit ?_
        refine xq_block_hit ?_
        refine xq_seq ?_
        refine xc_region ?_
        refine xo_rd (rd_addn rfl rfl (by omega) (by omega)) rfl ?_
        refine xo_rd (rd_move rfl) rfl ?_
        refine xo_nil ?_
      refine xq_roundI (⟨i + 1, y, v, ws, l⟩ : AskS) ⟨by dsimp only; omega, hok, hc, ?_, hO, hws, by dsimp only; omega⟩ (by dsimp only; omega) rfl (by repeat (first | exact keep_nil | refine keep_cons rfl ?_))
      rw [hstep]; unfold Sta.ask1; rw [h2]
    · skip
      have hmem : q ∈ y.ps := by rw [h0]; simp
      have hq := hok.pk q hmem
      have hk : Kn W (AskS.L ⟨i, y, v, ws, l⟩ L) q.b (.cells q.cells.toArray 67 (0, 0)) := y.kn hmem
      have ha : Cl W (AskS.L ⟨i, y, v, ws, l⟩ L) q.b (0 + 1) (.bool q.asked) := ⟨_, _, _, hk, rfl⟩
      have ht : Cl W (AskS.L ⟨i, y, v, ws, l⟩ L) q.b (0 + 2) (.int .u64 q.tick) := ⟨_, _, _, hk, rfl⟩
      have hmx1 : q.tick ≤ mx now q.tick := le_mx _ _
      have hmx2 : mx now q.tick ≤ 18446744073709551615 := mx_le hn1 hq.t1
      have ht0 := hq.t0
      have hh : Cl W (AskS.L ⟨i, y, v, ws, l⟩ L) y.c (0 + 1) (.int .u64 y.hold) := ⟨_, _, _, Kn.own (by unfold AskS.L; rw [Ca.blks_app]; exact List.Mem.head _), rfl⟩
      focus
        refine xo_rd (rd_indexAddr rfl rfl (by omega) (by omega)) rfl ?_
        refine xo_rd (rd_load1 rfl hcl) rfl ?_
        refine xo_rd (rd_assign rfl) rfl ?_
        refine xo_nil ?_
        refine xq_seq ?_
        refine xc_seq ?_
        refine xc_region ?_
        refine xo_rd (rd_move rfl) rfl ?_
        refine xo_rd (rd_move rfl) rfl ?_
        refine xo_ef rfl (ef_call rfl (XF.mono (xf_packet y hok n (.pointer (some ⟨q.b, 0, none⟩)) (by rw [h3]; rfl)) ?_))
        rintro v L' ⟨rfl, rfl⟩
        refine xo_rd (rd_assign rfl) rfl ?_
        refine xo_nil ?_
        refine xq_seq ?_
      have hperm : (AskS.L ⟨i, y, v, ws, l⟩ L).Perm ((q.b, .cells q.cells.toArray 67 (0, 0)) :: (q.l ++ ((y.c, .cells y.cells.toArray 62 (0, 0)) :: (y.mb, y.mo) :: (y.nl ++ (ps1.flatMap Pk.blks ++ (ps2.flatMap Pk.blks ++ (l ++ (ws.flatMap Ow.l ++ L)))))))) := by
        have := (y.open_perm ps1 ps2 q (l ++ (ws.flatMap Ow.l ++ L))).symm
        rw [y.withp_self h0] at this
        exact this
      refine xc_join (ι := Unit) (fun _ => q.pp.may y.hold now) (fun _ => (q.b, .cells q.cells.toArray 67 (0, 0)) :: (q.l ++ ((y.c, .cells y.cells.toArray 62 (0, 0)) :: (y.mb, y.mo) :: (y.nl ++ (ps1.flatMap Pk.blks ++ (ps2.flatMap Pk.blks ++ (l ++ (ws.flatMap Ow.l ++ L)))))))) (fun _ => [(0, .pointer (some ⟨y.c, 0, none⟩)), (1, .int .u64 now), (6, v), (9, .pointer (some ⟨q.b, 0, none⟩)), (10, .slice (some ⟨b, o, none⟩) m k), (11, .int .i64 m), (12, .int .i64 i)]) ?_ ?_
      · focus
          refine xc_seq ?_
          refine xc_drawML [0, 1, 2, 4, 12, 20, 36, 68, 128, 128, 640, 1152, 2176, 4480, 128, 16512, 32896, 65664, 139392, 128, 524416, 1048704, 2097280, 4456576, 8388740, 16777220] [0, 1, 2, 4, 12, 20, 36, 68, 128, 128, 640, 1152, 2176, 4480, 128, 16512, 32896, 65664, 139392, 128, 524416, 1048704, 2097280, 4456576, 8388740, 16777220] (by kernel_rfl) (by kernel_rfl) (by kernel_rfl) ?_
          refine xm_take 0 (m' := 1) rfl (by kernel_rfl) (by first | exact Sb.refl | exact Sb.nil | (repeat (first | exact Sb.nil | exact Sb.refl | exact Sb.app0 | apply Sb.keep | apply Sb.keepApp | apply Sb.cons | apply Sb.app))) (rd_move rfl) rfl (by kernel_rfl) ?_
          refine xm_take 1 (m' := 3) rfl (by kernel_rfl) (by first | exact Sb.refl | exact Sb.nil | (repeat (first | exact Sb.nil | exact Sb.refl | exact Sb.app0 | apply Sb.keep | apply Sb.keepApp | apply Sb.cons | apply Sb.app))) (rd_eqnil rfl) rfl (by kernel_rfl) ?_
          refine xm_take 2 (m' := 7) rfl (by kernel_rfl) (by first | exact Sb.refl | exact Sb.nil | (repeat (first | exact Sb.nil | exact Sb.refl | exact Sb.app0 | apply Sb.keep | apply Sb.keepApp | apply Sb.cons | apply Sb.app))) (rd_move rfl) rfl (by kernel_rfl) ?_
          refine xm_gtake 3 (m' := 15) rfl (by kernel_rfl) (by first | exact Sb.refl | exact Sb.nil | (repeat (first | exact Sb.nil | exact Sb.refl | exact Sb.app0 | apply Sb.keep | apply Sb.keepApp | apply Sb.cons | apply Sb.app))) rfl rfl (rd_move rfl) rfl (by kernel_rfl) ?_
          refine xm_gtake 4 (m' := 31) rfl (by kernel_rfl) (by first | exact Sb.refl | exact Sb.nil | (repeat (first | exact Sb.nil | exact Sb.refl | exact Sb.app0 | apply Sb.keep | apply Sb.keepApp | apply Sb.cons | apply Sb.app))) rfl rfl (rd_nilCheck rfl) rfl (by kernel_rfl) ?_
          refine xm_gtake 5 (m' := 63) rfl (by kernel_rfl) (by first | exact Sb.refl | exact Sb.nil | (repeat (first | exact Sb.nil | exact Sb.refl | exact Sb.app0 | apply Sb.keep | apply Sb.keepApp | apply Sb.cons | apply Sb.app))) rfl rfl (rd_fieldAddr rfl) rfl (by kernel_rfl) ?_
          refine xm_gtake 6 (m' := 127) rfl (by kernel_rfl) (by first | exact Sb.refl | exact Sb.nil | (repeat (first | exact Sb.nil | exact Sb.refl | exact Sb.app0 | apply Sb.keep | apply Sb.keepApp | apply Sb.cons | apply Sb.app))) rfl rfl (rd_load1 rfl ha) rfl (by kernel_rfl) ?_
          refine xm_gtake 7 (m' := 255) rfl (by kernel_rfl) (by first | exact Sb.refl | exact Sb.nil | (repeat (first | exact Sb.nil | exact Sb.refl | exact Sb.app0 | apply Sb.keep | apply Sb.keepApp | apply Sb.cons | apply Sb.app))) rfl rfl (rd_move rfl) rfl (by kernel_rfl) ?_
          refine xm_split 26 rfl (fun ha1 => ?_) (fun ha1 => ?_)
          refine xm_gtake 8 (m' := 511) rfl (by kernel_rfl) (by first | exact Sb.refl | exact Sb.nil | (repeat (first | exact Sb.nil | exact Sb.refl | exact Sb.app0 | apply Sb.keep | apply Sb.keepApp | apply Sb.cons | apply Sb.app))) rfl rfl (rd_move rfl) rfl (by kernel_rfl) ?_
          refine xm_gtake 9 (m' := 1023) rfl (by kernel_rfl) (by first | exact Sb.refl | exact Sb.nil | (repeat (first | exact Sb.nil | exact Sb.refl | exact Sb.app0 | apply Sb.keep | apply Sb.keepApp | apply Sb.cons | apply Sb.app))) rfl rfl (rd_move rfl) rfl (by kernel_rfl) ?_
          refine xm_gtake 10 (m' := 2047) rfl (by kernel_rfl) (by first | exact Sb.refl | exact Sb.nil | (repeat (first | exact Sb.nil | exact Sb.refl | exact Sb.app0 | apply Sb.keep | apply Sb.keepApp | apply Sb.cons | apply Sb.app))) rfl rfl (rd_nilCheck rfl) rfl (by kernel_rfl) ?_
          refine xm_gtake 11 (m' := 4095) rfl (by kernel_rfl) (by first | exact Sb.refl | exact Sb.nil | (repeat (first | exact Sb.nil | exact Sb.refl | exact Sb.app0 | apply Sb.keep | apply Sb.keepApp | apply Sb.cons | apply Sb.app))) rfl rfl (rd_fieldAddr rfl) rfl (by kernel_rfl) ?_
          refine xm_gtake 12 (m' := 8191) rfl (by kernel_rfl) (by first | exact Sb.refl | exact Sb.nil | (repeat (first | exact Sb.nil | exact Sb.refl | exact Sb.app0 | apply Sb.keep | apply Sb.keepApp | apply Sb.cons | apply Sb.app))) rfl rfl (rd_load1 rfl ht) rfl (by kernel_rfl) ?_
          refine xm_gtake 13 (m' := 16383) rfl (by kernel_rfl) (by first | exact Sb.refl | exact Sb.nil | (repeat (first | exact Sb.nil | exact Sb.refl | exact Sb.app0 | apply Sb.keep | apply Sb.keepApp | apply Sb.cons | apply Sb.app))) rfl rfl ((rd_cast (rd_max rfl rfl) (rfl : (Value.int .u64 (if q.tick > now then q.tick else now)) = .int .u64 (mx now q.tick)))) rfl (by kernel_rfl) ?_
          refine xm_gtake 14 (m' := 32767) rfl (by kernel_rfl) (by first | exact Sb.refl | exact Sb.nil | (repeat (first | exact Sb.nil | exact Sb.refl | exact Sb.app0 | apply Sb.keep | apply Sb.keepApp | apply Sb.cons | apply Sb.app))) rfl rfl (rd_move rfl) rfl (by kernel_rfl) ?_
          refine xm_gtake 15 (m' := 65535) rfl (by kernel_rfl) (by first | exact Sb.refl | exact Sb.nil | (repeat (first | exact Sb.nil | exact Sb.refl | exact Sb.app0 | apply Sb.keep | apply Sb.keepApp | apply Sb.cons | apply Sb.app))) rfl rfl (rd_nilCheck rfl) rfl (by kernel_rfl) ?_
          refine xm_gtake 16 (m' := 131071) rfl (by kernel_rfl) (by first | exact Sb.refl | exact Sb.nil | (repeat (first | exact Sb.nil | exact Sb.refl | exact Sb.app0 | apply Sb.keep | apply Sb.keepApp | apply Sb.cons | apply Sb.app))) rfl rfl (rd_fieldAddr rfl) rfl (by kernel_rfl) ?_
          refine xm_gtake 17 (m' := 262143) rfl (by kernel_rfl) (by first | exact Sb.refl | exact Sb.nil | (repeat (first | exact Sb.nil | exact Sb.refl | exact Sb.app0 | apply Sb.keep | apply Sb.keepApp | apply Sb.cons | apply Sb.app))) rfl rfl (rd_load1 rfl ht) rfl (by kernel_rfl) ?_
          refine xm_gtake 18 (m' := 524287) rfl (by kernel_rfl) (by first | exact Sb.refl | exact Sb.nil | (repeat (first | exact Sb.nil | exact Sb.refl | exact Sb.app0 | apply Sb.keep | apply Sb.keepApp | apply Sb.cons | apply Sb.app))) rfl rfl (rd_subn rfl rfl (by omega) (by omega)) rfl (by kernel_rfl) ?_
          refine xm_gtake 19 (m' := 1048575) rfl (by kernel_rfl) (by first | exact Sb.refl | exact Sb.nil | (repeat (first | exact Sb.nil | exact Sb.refl | exact Sb.app0 | apply Sb.keep | apply Sb.keepApp | apply Sb.cons | apply Sb.app))) rfl rfl (rd_move rfl) rfl (by kernel_rfl) ?_
          refine xm_gtake 20 (m' := 2097151) rfl (by kernel_rfl) (by first | exact Sb.refl | exact Sb.nil | (repeat (first | exact Sb.nil | exact Sb.refl | exact Sb.app0 | apply Sb.keep | apply Sb.keepApp | apply Sb.cons | apply Sb.app))) rfl rfl (rd_nilCheck rfl) rfl (by kernel_rfl) ?_
          refine xm_gtake 21 (m' := 4194303) rfl (by kernel_rfl) (by first | exact Sb.refl | exact Sb.nil | (repeat (first | exact Sb.nil | exact Sb.refl | exact Sb.app0 | apply Sb.keep | apply Sb.keepApp | apply Sb.cons | apply Sb.app))) rfl rfl (rd_fieldAddr rfl) rfl (by kernel_rfl) ?_
          refine xm_gtake 22 (m' := 8388607) rfl (by kernel_rfl) (by first | exact Sb.refl | exact Sb.nil | (repeat (first | exact Sb.nil | exact Sb.refl | exact Sb.app0 | apply Sb.keep | apply Sb.keepApp | apply Sb.cons | apply Sb.app))) rfl rfl (rd_load1 rfl hh) rfl (by kernel_rfl) ?_
          refine xm_gtake 23 (m' := 16777215) rfl (by kernel_rfl) (by first | exact Sb.refl | exact Sb.nil | (repeat (first | exact Sb.nil | exact Sb.refl | exact Sb.app0 | apply Sb.keep | apply Sb.keepApp | apply Sb.cons | apply Sb.app))) rfl rfl (rd_lss rfl rfl) rfl (by kernel_rfl) ?_
          refine xm_gtake 24 (m' := 33554431) rfl (by kernel_rfl) (by first | exact Sb.refl | exact Sb.nil | (repeat (first | exact Sb.nil | exact Sb.refl | exact Sb.app0 | apply Sb.keep | apply Sb.keepApp | apply Sb.cons | apply Sb.app))) rfl rfl (rd_pickt rfl rfl) rfl (by kernel_rfl) ?_
          refine xm_take 25 (m' := 67108863) rfl (by kernel_rfl) (by first | exact Sb.refl | exact Sb.nil | (repeat (first | exact Sb.nil | exact Sb.refl | exact Sb.app0 | apply Sb.keep | apply Sb.keepApp | apply Sb.cons | apply Sb.app))) (rd_pickf rfl rfl) rfl (by kernel_rfl) ?_
          refine xm_done (by kernel_rfl) ?_
          refine xq_seq ?_
          refine xc_dec rfl (fun ha2 => ?_) (fun ha2 => ?_)
          refine xc_exit ?_
          refine xq_then_exit ?_
          refine xq_block_hit ?_
          refine xq_seq ?_
          refine xc_region ?_
          refine xo_rd (rd_addn rfl rfl (by omega) (by omega)) rfl ?_
          refine xo_rd (rd_move rfl) rfl ?_
          refine xo_nil ?_
          rotate_left
          refine xc_skip ?_
          rotate_left
          refine xm_gskip 8 (m' := 511) rfl (by kernel_rfl) (by first | exact Sb.refl | exact Sb.nil | (repeat (first | exact Sb.nil | exact Sb.refl | exact Sb.app0 | apply Sb.keep | apply Sb.keepApp | apply Sb.cons | apply Sb.app))) rfl rfl rfl rfl (by kernel_rfl) ?_
          refine xm_gskip 9 (m' := 1023) rfl (by kernel_rfl) (by first | exact Sb.refl | exact Sb.nil | (repeat (first | exact Sb.nil | exact Sb.refl | exact Sb.app0 | apply Sb.keep | apply Sb.keepApp | apply Sb.cons | apply Sb.app))) rfl rfl rfl rfl (by kernel_rfl) ?_
          refine xm_gskip 10 (m' := 2047) rfl (by kernel_rfl) (by first | exact Sb.refl | exact Sb.nil | (repeat (first | exact Sb.nil | exact Sb.refl | exact Sb.app0 | apply Sb.keep | apply Sb.keepApp | apply Sb.cons | apply Sb.app))) rfl rfl rfl rfl (by kernel_rfl) ?_
          refine xm_gskip 11 (m' := 4095) rfl (by kernel_rfl) (by first | exact Sb.refl | exact Sb.nil | (repeat (first | exact Sb.nil | exact Sb.refl | exact Sb.app0 | apply Sb.keep | apply Sb.keepApp | apply Sb.cons | apply Sb.app))) rfl rfl rfl rfl (by kernel_rfl) ?_
          refine xm_gskip 12 (m' := 8191) rfl (by kernel_rfl) (by first | exact Sb.refl | exact Sb.nil | (repeat (first | exact Sb.nil | exact Sb.refl | exact Sb.app0 | apply Sb.keep | apply Sb.keepApp | apply Sb.cons | apply Sb.app))) rfl rfl rfl rfl (by kernel_rfl) ?_
          refine xm_gskip 13 (m' := 16383) rfl (by kernel_rfl) (by first | exact Sb.refl | exact Sb.nil | (repeat (first | exact Sb.nil | exact Sb.refl | exact Sb.app0 | apply Sb.keep | apply Sb.keepApp | apply Sb.cons | apply Sb.app))) rfl rfl rfl rfl (by kernel_rfl) ?_
          refine xm_gskip 14 (m' := 32767) rfl (by kernel_rfl) (by first | exact Sb.refl | exact Sb.nil | (repeat (first | exact Sb.nil | exact Sb.refl | exact Sb.app0 | apply Sb.keep | apply Sb.keepApp | apply Sb.cons | apply Sb.app))) rfl rfl rfl rfl (by kernel_rfl) ?_
          refine xm_gskip 15 (m' := 65535) rfl (by kernel_rfl) (by first | exact Sb.refl | exact Sb.nil | (repeat (first | exact Sb.nil | exact Sb.refl | exact Sb.app0 | apply Sb.keep | apply Sb.keepApp | apply Sb.cons | apply Sb.app))) rfl rfl rfl rfl (by kernel_rfl) ?_
          refine xm_gskip 16 (m' := 131071) rfl (by kernel_rfl) (by first | exact Sb.refl | exact Sb.nil | (repeat (first | exact Sb.nil | exact Sb.refl | exact Sb.app0 | apply Sb.keep | apply Sb.keepApp | apply Sb.cons | apply Sb.app))) rfl rfl rfl rfl (by kernel_rfl) ?_
          refine xm_gskip 17 (m' := 262143) rfl (by kernel_rfl) (by first | exact Sb.refl | exact Sb.nil | (repeat (first | exact Sb.nil | exact Sb.refl | exact Sb.app0 | apply Sb.keep | apply Sb.keepApp | apply Sb.cons | apply Sb.app))) rfl rfl rfl rfl (by kernel_rfl) ?_
          refine xm_gskip 18 (m' := 524287) rfl (by kernel_rfl) (by first | exact Sb.refl | exact Sb.nil | (repeat (first | exact Sb.nil | exact Sb.refl | exact Sb.app0 | apply Sb.keep | apply Sb.keepApp | apply Sb.cons | apply Sb.app))) rfl rfl rfl rfl (by kernel_rfl) ?_
          refine xm_gskip 19 (m' := 1048575) rfl (by kernel_rfl) (by first | exact Sb.refl | exact Sb.nil | (repeat (first | exact Sb.nil | exact Sb.refl | exact Sb.app0 | apply Sb.keep | apply Sb.keepApp | apply Sb.cons | apply Sb.app))) rfl rfl rfl rfl (by kernel_rfl) ?_
          refine xm_gskip 20 (m' := 2097151) rfl (by kernel_rfl) (by first | exact Sb.refl | exact Sb.nil | (repeat (first | exact Sb.nil | exact Sb.refl | exact Sb.app0 | apply Sb.keep | apply Sb.keepApp | apply Sb.cons | apply Sb.app))) rfl rfl rfl rfl (by kernel_rfl) ?_
          refine xm_gskip 21 (m' := 4194303) rfl (by kernel_rfl) (by first | exact Sb.refl | exact Sb.nil | (repeat (first | exact Sb.nil | exact Sb.refl | exact Sb.app0 | apply Sb.keep | apply Sb.keepApp | apply Sb.cons | apply Sb.app))) rfl rfl rfl rfl (by kernel_rfl) ?_
          refine xm_gskip 22 (m' := 8388607) rfl (by kernel_rfl) (by first | exact Sb.refl | exact Sb.nil | (repeat (first | exact Sb.nil | exact Sb.refl | exact Sb.app0 | apply Sb.keep | apply Sb.keepApp | apply Sb.cons | apply Sb.app))) rfl rfl rfl rfl (by kernel_rfl) ?_
          refine xm_gskip 23 (m' := 16777215) rfl (by kernel_rfl) (by first | exact Sb.refl | exact Sb.nil | (repeat (first | exact Sb.nil | exact Sb.refl | exact Sb.app0 | apply Sb.keep | apply Sb.keepApp | apply Sb.cons | apply Sb.app))) rfl rfl rfl rfl (by kernel_rfl) ?_
          refine xm_gtake 24 (m' := 33554431) rfl (by kernel_rfl) (by first | exact Sb.refl | exact Sb.nil | (repeat (first | exact Sb.nil | exact Sb.refl | exact Sb.app0 | apply Sb.keep | apply Sb.keepApp | apply Sb.cons | apply Sb.app))) rfl rfl (rd_pickf rfl rfl) rfl (by kernel_rfl) ?_
          refine xm_take 25 (m' := 67108863) rfl (by kernel_rfl) (by first | exact Sb.refl | exact Sb.nil | (repeat (first | exact Sb.nil | exact Sb.refl | exact Sb.app0 | apply Sb.keep | apply Sb.keepApp | apply Sb.cons | apply Sb.app))) (rd_pickf rfl rfl) rfl (by kernel_rfl) ?_
          refine xm_done (by kernel_rfl) ?_
          refine xq_seq ?_
          refine xc_condf rfl ?_
          refine xc_skip ?_
          rotate_left
        · refine xq_roundI (⟨i + 1, y, v, ws, l⟩ : AskS) ⟨by dsimp only; omega, hok, hc, ?_, hO, hws, by dsimp only; omega⟩ (by dsimp only; omega) rfl (by repeat (first | exact keep_nil | refine keep_cons rfl ?_))
          rw [hstep]; unfold Sta.ask1; rw [h4]
          dsimp only
          rw [if_neg (fun hmay => hmay ⟨ha1, ha2⟩)]
        · exact xq_perm hperm (xq_joined () (fun hmay => ha2 hmay.2) rfl (by repeat (first | exact keep_nil | refine keep_cons rfl ?_)))
        · exact xq_perm hperm (xq_joined () (fun hmay => by rw [show q.pp.asked = q.asked from rfl, ha1] at hmay; exact absurd hmay.1 (by decide)) rfl (by repeat (first | exact keep_nil | refine keep_cons rfl ?_)))
      · rintro _ hmay
        focus
          refine xc_seq ?_
          refine xc_region ?_
          refine xo_rd (rd_move rfl) rfl ?_
          refine xo_rd (rd_move rfl) rfl ?_
          refine xo_rd (rd_move rfl) rfl ?_
          refine xo_rd (rd_move rfl) rfl ?_
          refine xo_rd (rd_nilCheck rfl) rfl ?_
          refine xo_rd (rd_fieldAddr rfl) rfl ?_
          refine xo_rd (rd_load1 rfl (Cl.o0 rfl)) rfl ?_
          refine xo_rd ((rd_cast (rd_max rfl rfl) (rfl : (Value.int .u64 (if q.tick > now then q.tick else now)) = .int .u64 (mx now q.tick)))) rfl ?_
          refine xo_rd (rd_nilCheck rfl) rfl ?_
          refine xo_rd (rd_fieldAddr rfl) rfl ?_
          refine xo_ef rfl (ef_store1 [] _ rfl rfl (by first | rfl | assumption) rfl rfl rfl ?_)
          refine xo_rd (rd_nilCheck rfl) rfl ?_
          refine xo_rd (rd_fieldAddr rfl) rfl ?_
          refine xo_ef rfl (ef_store1 [] _ rfl rfl (by first | rfl | assumption) rfl rfl rfl ?_)
          refine xo_nil ?_
          refine xq_seq ?_
          refine xc_region ?_
          refine xo_rd (rd_move rfl) rfl ?_
          refine xo_rd (rd_move rfl) rfl ?_
          refine xo_rd (rd_nilCheck rfl) rfl ?_
          refine xo_rd (rd_fieldAddr rfl) rfl ?_
          refine xo_rd (rd_load1 rfl (Cl.o0 rfl)) rfl ?_
        obtain ⟨y', hy'⟩ : ∃ z, z = y.withp (ps1 ++ q.told now :: ps2) := ⟨_, rfl⟩
        refine xo_perm (y.open_perm ps1 ps2 (q.told now) (l ++ (ws.flatMap Ow.l ++ L))) ?_
        rw [← hy']
        have hok' : y'.Ok := by rw [hy']; exact y.told_ok hok h0 now hn1
        have hst' := y.told_st hok h0 now n h1
        rw [← hy'] at hst'
        have hmem' : q.told now ∈ y'.ps := by rw [hy']; simp [Ca.withp]
        have hyc' : y'.c = y.c := by rw [hy']; rfl
        obtain ⟨qv, kv, hv, hqO, _⟩ := hq.o.opn
        have hqlen := hq.len
        rw [hv]
        refine xo_ef rfl (ef_call rfl (XF.mono (xf_cloneB _ _ _ _ (by rw [ints_len]; omega) (hqO.rs (show ∀ z, z ∈ q.l → z ∈ y'.blks ++ _ from y'.lmem (p := q.told now) hmem')) (ints_one _ _) (by omega)) ?_))
        rintro v' L' ⟨qb, cb, lb, rfl, hqb, hcb, rfl⟩
        focus
          refine xo_ef rfl (ef_slice1 rfl rfl rfl fun r63 => ?_)
        refine xo_ef rfl (ef_append ((r63, _) :: (lb ++ y'.blks)) (ws.flatMap Ow.l ++ L) l rfl rfl hO (by simp; rfl) (Rs.fresh (List.Mem.head _)) rfl rfl (by decide) (by omega) (by omega) fun v' l' hO' => ?_)
        refine xo_tail ?_
        obtain ⟨v2, k2, rfl, hO', _⟩ := hO'.opn
        refine xo_perm (L' := y'.blks ++ (l' ++ ((ws ++ [Ow.mk (.slice qb q.bs.length cb) q.bs lb]).flatMap Ow.l ++ L))) (by classical exact List.perm_iff_count.2 fun a => by simp only [List.append_eq, List.count_append, List.count_cons, List.count_nil, List.cons_append, List.nil_append, List.flatMap_append, List.flatMap_cons, List.flatMap_nil, List.append_nil]; omega) ?_
        focus
          refine xo_rd (rd_assign rfl) rfl ?_
          refine xo_nil ?_
          refine xq_block ?_
          refine xq_seq ?_
          refine xc_region ?_
          refine xo_rd (rd_addn rfl rfl (by omega) (by omega)) rfl ?_
          refine xo_rd (rd_move rfl) rfl ?_
          refine xo_nil ?_
        refine xq_roundI (⟨i + 1, y', .slice v2 (ws.length + 1) k2, ws ++ [Ow.mk (.slice qb q.bs.length cb) q.bs lb], l'⟩ : AskS) ⟨by dsimp only; omega, hok', hyc'.trans hc, ?_, ?_, ?_, ?_⟩ (by dsimp only; omega) rfl (by repeat (first | exact keep_nil | refine keep_cons rfl ?_))
        · rw [hstep]; unfold Sta.ask1; rw [h4]
          dsimp only
          rw [if_pos (show q.pp.may y.st.hold now from hmay), hst']
          simp [Pk.pp]
        · dsimp only
          rw [List.map_append, List.length_append]
          exact hO'
        · intro w hw
          rcases List.mem_append.1 hw with hw | hw
          · exact hws w hw
          · rw [List.mem_singleton] at hw
            subst hw
            exact ⟨hqb, hqlen⟩
        · dsimp only
          rw [List.length_append]
          simp
          omega
  · have him : i = m := by omega
    exact xq_ret1 (.inl rfl) Try.results13 rfl ⟨_, hI, him, rfl, rfl⟩
end Go.Proofs.Ytmjklmjdmocaiaa.X
