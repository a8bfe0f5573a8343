/-
  Texts of my own, put together: walks and laws for this seat. No condition.
-/
import Derived.Test.YtoolgphkfnkajaaM5
/-
  KeyreqOnce: at most once in a window; served at the latest when it ends; nothing hangs on another source: a walk of my own.
-/
namespace Go.Proofs.Ytoolgphkfnkajaa.X
open Go Go.RowKit
set_option linter.unusedVariables false
set_option linter.unusedSimpArgs false
/-- Where the law stands. -/
structure OnS where
  mo : Obj
  moa : Obj
  lr : List Sr
  la : List Sr
  ask : List Int
  wan : List Int
  now : Int
  pa : Option Addr
  ca : Nat
  xa : List Blk
  pw : Option Addr
  cw : Nat
  xw : List Blk
structure OnO (w : Int) (s : OnS) (t : Int) : Prop where
  r : RqOk w s.mo s.lr
  a : RqOk w s.moa s.la
  i : OnI w s.lr s.la s.ask s.wan s.now t
  n : 0 ≤ s.now
  sa : SlQ 1 22 (.slice s.pa s.ask.length s.ca) s.ask.length (ints .u64 s.ask) s.xa
  sw : SlQ 1 22 (.slice s.pw s.wan.length s.cw) s.wan.length (ints .u64 s.wan) s.xw
def OnS.bl (w : Int) (r mb ra mba : Nat) (s : OnS) : List Blk := (s.xa ++ s.xw) ++ rq2 w r mb s.mo ra mba s.moa []
/-- What the round's call is. -/
structure RdS where
  by' : Nat
  one : Bool
  a : Ac
theorem perm_o1 {c : Blk} (lo2 lo1 xa xw B : List Blk) : (lo2 ++ (lo1 ++ (([c] ++ (xa ++ xw)) ++ B))).Perm (xa ++ (lo2 ++ (lo1 ++ (c :: (xw ++ B))))) := (by classical exact List.perm_iff_count.2 fun a => by simp only [List.append_eq, List.count_append, List.count_cons, List.count_nil, List.cons_append, List.nil_append, List.flatMap_append, List.flatMap_cons, List.flatMap_nil, List.append_nil]; omega)
theorem perm_o2 {c d : Blk} (lo2 lo1 xa xw B : List Blk) : (d :: (xa ++ (lo2 ++ (lo1 ++ (c :: (xw ++ B)))))).Perm ((d :: (lo2 ++ (lo1 ++ xw))) ++ (c :: ((xa ++ []) ++ B))) := (by classical exact List.perm_iff_count.2 fun a => by simp only [List.append_eq, List.count_append, List.count_cons, List.count_nil, List.cons_append, List.nil_append, List.flatMap_append, List.flatMap_cons, List.flatMap_nil, List.append_nil]; omega)
theorem perm_o3 {c : Blk} (xa xw B : List Blk) : (c :: ((xa ++ xw) ++ B)).Perm (xa ++ (c :: (xw ++ B))) := (by classical exact List.perm_iff_count.2 fun a => by simp only [List.append_eq, List.count_append, List.count_cons, List.count_nil, List.cons_append, List.nil_append, List.flatMap_append, List.flatMap_cons, List.flatMap_nil, List.append_nil]; omega)
theorem perm_o4 {c d : Blk} (xa xw B : List Blk) : (d :: (xa ++ (c :: (xw ++ B)))).Perm ((d :: c :: xw) ++ ((xa ++ []) ++ B)) := (by classical exact List.perm_iff_count.2 fun a => by simp only [List.append_eq, List.count_append, List.count_cons, List.count_nil, List.cons_append, List.nil_append, List.flatMap_append, List.flatMap_cons, List.flatMap_nil, List.append_nil]; omega)
theorem perm_o5 {c : Blk} (xa xw B : List Blk) : (c :: ((xa ++ xw) ++ B)).Perm (xw ++ (c :: (xa ++ B))) := (by classical exact List.perm_iff_count.2 fun a => by simp only [List.append_eq, List.count_append, List.count_cons, List.count_nil, List.cons_append, List.nil_append, List.flatMap_append, List.flatMap_cons, List.flatMap_nil, List.append_nil]; omega)
theorem perm_o6 {c d : Blk} (xa xw B : List Blk) : (d :: (xw ++ (c :: (xa ++ B)))).Perm ([d, c] ++ ((xa ++ xw) ++ B)) := (by classical exact List.perm_iff_count.2 fun a => by simp only [List.append_eq, List.count_append, List.count_cons, List.count_nil, List.cons_append, List.nil_append, List.flatMap_append, List.flatMap_cons, List.flatMap_nil, List.append_nil]; omega)
theorem sub_o7 (xa xw B : List Blk) : ((xa ++ []) ++ B).Sublist ((xa ++ xw) ++ B) := ((List.Sublist.refl xa).append (List.nil_sublist xw)).append (List.Sublist.refl B)
theorem getD_zero {l : List Int} (h : 0 < l.length) : l[0] = l.getD 0 0 := by
  rw [List.getD_eq_getElem?_getD, List.getElem?_eq_getElem h]; rfl
set_option maxHeartbeats 6400000 in
theorem once1 {W : World} (w0 : Int) (h0 : 0 ≤ w0) (p : Option Addr) (n c : Nat) (xs : List Ac) (hx : xs.length = n) (hr : Rs W [] p (xs.flatMap Ac.enc)) (hE : ∀ x, x ∈ xs → (0 ≤ x.src ∧ x.src ≤ 4294967295) ∧ 0 ≤ x.by' ∧ x.by' ≤ 65535) :
    XF Try.prog W 3 #[.int .u64 w0, .slice p n c] [] (fun v L' => v = .bool true) := by
  refine xf_enter (args := [_, _]) Try.func3 rfl Try.ntmps3 rfl ?_
  by_cases hn60 : n ≤ 60
  case neg =>
    focus
      refine xc_seq ?_
      refine xc_region ?_
      refine xo_rd (rd_assign rfl) rfl ?_
      refine xo_nil ?_
      refine xq_seq ?_
      refine xc_seq ?_
      refine xc_seq ?_
      refine xc_region ?_
      refine xo_rd (rd_move rfl) rfl ?_
      refine xo_rd (rd_len rfl) rfl ?_
      refine xo_rd (rd_gtr rfl rfl) rfl ?_
      refine xo_nil ?_
      refine xq_seq ?_
      refine xc_dec rfl (fun h1 => ?_) (fun h1 => (by exfalso; omega))
      refine xc_seq ?_
      refine xc_region ?_
      refine xo_ef rfl (ef_call rfl (XF.mono (xf_works) ?_))
      rintro v L' ⟨rfl, rfl⟩
      refine xo_rd (rd_assign rfl) rfl ?_
      refine xo_nil ?_
      refine xq_seq ?_
      refine xc_ret ?_
      refine xq_then_ret ?_
    exact xq_ret1 (.inl rfl) Try.results3 rfl rfl
  obtain ⟨w, hw⟩ : ∃ w, 1 + w0 % 64 = w := ⟨_, rfl⟩
  have hw1 : 1 ≤ w ∧ w ≤ 64 := by omega
  have hwu : 1 ≤ w ∧ w ≤ 18446744073709551615 := by omega
  focus
    refine xc_seq ?_
    refine xc_region ?_
    refine xo_rd (rd_assign rfl) rfl ?_
    refine xo_nil ?_
    refine xq_seq ?_
    refine xc_seq ?_
    refine xc_seq ?_
    refine xc_region ?_
    refine xo_rd (rd_move rfl) rfl ?_
    refine xo_rd (rd_len rfl) rfl ?_
    refine xo_rd (rd_gtr rfl rfl) rfl ?_
    refine xo_nil ?_
    refine xq_seq ?_
    refine xc_dec rfl (fun h1 => (by exfalso; omega)) (fun h1 => ?_)
    refine xc_skip ?_
    refine xq_seq ?_
    refine xc_seq ?_
    refine xc_region ?_
    refine xo_rd (rd_move rfl) rfl ?_
    refine xo_rd (rd_remn rfl rfl (by omega) (by omega)) rfl ?_
    refine xo_rd (rd_addn rfl rfl (by omega) (by omega)) rfl ?_
    refine xo_rd (rd_assign rfl) rfl ?_
    refine xo_nil ?_
    refine xq_seq ?_
  rw [hw]
  focus
    refine xc_seq ?_
    refine xc_region ?_
    refine xo_rd (rd_move rfl) rfl ?_
    refine xo_ef rfl (ef_call rfl (XF.mono (xf_New w hwu) ?_))
    rintro v L' ⟨r, mb, mo0, rfl, hr0, rfl⟩
    refine xo_rd (rd_move rfl) rfl ?_
    refine xo_rd (rd_extract rfl rfl) rfl ?_
    refine xo_rd (rd_extract rfl rfl) rfl ?_
    refine xo_rd (rd_assign rfl) rfl ?_
    refine xo_rd (rd_assign rfl) rfl ?_
    refine xo_nil ?_
    refine xq_seq ?_
  focus
    refine xc_seq ?_
    refine xc_region ?_
    refine xo_rd (rd_move rfl) rfl ?_
    refine xo_ef rfl (ef_call rfl (XF.mono (xf_New w hwu) ?_))
    rintro v L' ⟨ra, mba, moa0, rfl, ha0, rfl⟩
    refine xo_rd (rd_move rfl) rfl ?_
    refine xo_rd (rd_extract rfl rfl) rfl ?_
    refine xo_rd (rd_extract rfl rfl) rfl ?_
    refine xo_rd (rd_assign rfl) rfl ?_
    refine xo_rd (rd_assign rfl) rfl ?_
    refine xo_nil ?_
    refine xq_seq ?_
    refine xc_seq ?_
    refine xc_seq ?_
    refine xc_region ?_
    refine xo_rd (rd_move rfl) rfl ?_
    refine xo_rd (rd_neq rfl rfl) rfl ?_
    refine xo_rd (rd_move rfl) rfl ?_
    refine xo_grd rfl rfl (rd_move rfl) rfl ?_
    refine xo_grd rfl rfl (rd_neq rfl rfl) rfl ?_
    refine xo_rd (rd_pickf rfl rfl) rfl ?_
    refine xo_nil ?_
    refine xq_seq ?_
    refine xc_condf rfl ?_
    refine xc_skip ?_
    refine xq_seq ?_
    refine xc_seq ?_
    refine xc_region ?_
    refine xo_rd (rd_assign rfl) rfl ?_
    refine xo_rd (rd_assign rfl) rfl ?_
    refine xo_nil ?_
    refine xq_seq ?_
    refine xc_seq ?_
    refine xc_region ?_
    refine xo_rd (rd_assign rfl) rfl ?_
    refine xo_nil ?_
    refine xq_seq ?_
    refine xc_seq ?_
    refine xc_seq ?_
    refine xc_region ?_
    refine xo_rd (rd_assign rfl) rfl ?_
    refine xo_nil ?_
    refine xq_seq ?_
    refine xc_block ?_
  refine xc_perm (L' := rq2 w r mb mo0 ra mba moa0 []) ((rqB_front w ra mba moa0 [(r, .cells #[.int .u64 w, .map (some mb)] 48 (0, 0)), (mb, mo0)] []).symm) ?_
  refine xc_loopI (ι := Nat × OnS) (fun s => s.1 ≤ n + 81 ∧ OnO w s.2 (s.2.now + s.1) ∧ s.2.now ≤ 8 * s.1 ∧ s.2.wan.length ≤ s.1 ∧ (n ≤ s.1 → s.2.wan ≠ [] → (getS s.2.lr 0).last + ((s.1 : Int) - n) ≤ s.2.now) ∧ (n < s.1 → s.2.wan ≠ [] → s.2.now - (getS s.2.lr 0).last < w)) (fun s => n + 81 - s.1) (fun s => s.2.bl w r mb ra mba) (fun s => [(0, .int .u64 w), (1, .slice p n c), (5, .pointer (some ⟨r, 0, none⟩)), (7, .pointer (some ⟨ra, 0, none⟩)), (9, .slice s.2.pa s.2.ask.length s.2.ca), (10, .slice s.2.pw s.2.wan.length s.2.cw), (11, .int .u64 s.2.now), (12, .int .i64 s.1)]) (0, ⟨mo0, moa0, [], [], [], [], 0, none, 0, [], none, 0, []⟩) ⟨Nat.zero_le _, ⟨hr0, ha0, OnI.new, Int.le_refl _, SlQ.nil, SlQ.nil⟩, by dsimp only; omega, Nat.le_refl _, (fun _ h => absurd rfl h), (fun _ h => absurd rfl h)⟩ rfl (by repeat (first | exact keep_nil | refine keep_cons rfl ?_)) ?_
  clear hr0 ha0
  rintro ⟨i, mo, moa, lr, la, ask, wan, now, pa, ca, xa, pw, cw, xw⟩ ⟨hi, ⟨hor, hoa, hon, hnow, hsa, hsw⟩, hn8, hwl, hT, hU⟩
  dsimp only at hi hor hoa hon hnow hsa hsw hn8 hwl hT hU ⊢
  unfold OnS.bl
  dsimp only
  by_cases hin : i < n + 81
  case neg =>
    have hie : i = n + 81 := by omega
    subst hie
    have hwan : wan = [] := by
      by_cases h : wan = []
      · exact h
      · have h1 := hT (by omega) h
        have h2 := hU (by omega) h
        omega
    subst hwan
    have hal := hon.alen (by omega)
    focus
      refine xc_seq ?_
      refine xc_seq ?_
      refine xc_region ?_
      refine xo_rd (rd_move rfl) rfl ?_
      refine xo_rd (rd_move rfl) rfl ?_
      refine xo_rd (rd_len rfl) rfl ?_
      refine xo_rd (rd_addn rfl rfl (by omega) (by omega)) rfl ?_
      refine xo_rd (rd_leq rfl rfl) rfl ?_
      refine xo_nil ?_
      refine xq_seq ?_
      refine xc_dec rfl (fun h1 => (by exfalso; omega)) (fun h1 => ?_)
      refine xc_exit ?_
      refine xq_then_exit ?_
      refine xq_then_exit ?_
      refine xq_block_hit ?_
      refine xq_seq ?_
      refine xc_seq ?_
      refine xc_seq ?_
      refine xc_region ?_
      refine xo_rd (rd_assign rfl) rfl ?_
      refine xo_nil ?_
      refine xq_seq ?_
      refine xc_block ?_
    refine xc_loopK (ι := Nat) (fun k => 1 ≤ k ∧ (k ≤ ask.length ∨ k = 1)) (fun k => ask.length - k) (fun k => [(0, .int .u64 w), (5, .pointer (some ⟨r, 0, none⟩)), (9, .slice pa ask.length ca), (10, .slice pw 0 cw), (21, .int .i64 k)]) 1 ⟨Nat.le_refl _, .inr rfl⟩ (by repeat (first | exact keep_nil | refine keep_cons rfl ?_)) ?_
    rintro k ⟨hk1, hk2⟩
    by_cases hka : k < ask.length
    · have hrs : Rs W ((xa ++ xw) ++ rq2 w r mb mo ra mba moa []) pa (ints .u64 ask) := hsa.rs fun z hz => List.mem_append_left _ (List.mem_append_left _ hz)
      obtain ⟨b, o, hpb, hc⟩ := hrs.int (i := k) hka
      obtain ⟨b', o', hpb', hc'⟩ := hrs.int (i := k - 1) (by omega)
      rw [hpb] at hpb'
      simp only [Option.some.injEq, Addr.mk.injEq, and_true] at hpb'
      obtain ⟨rfl, rfl⟩ := hpb'
      subst hpb
      have e1 : ask[k]'(by omega) = ask.getD k 0 := by rw [List.getD_eq_getElem?_getD, List.getElem?_eq_getElem (by omega)]; rfl
      have e2 : ask[k - 1]'(by omega) = ask.getD (k - 1) 0 := by rw [List.getD_eq_getElem?_getD, List.getElem?_eq_getElem (by omega)]; rfl
      have n1 := hon.nn _ (List.getElem_mem (by omega : k < ask.length))
      have n2 := hon.nn _ (List.getElem_mem (by omega : k - 1 < ask.length))
      rw [e1] at hc n1
      rw [e2] at hc' n2
      have hg := hon.gp (k - 1) (by omega)
      rw [show k - 1 + 1 = k by omega] at hg
      have hc2 : Cl W ((xa ++ xw) ++ rq2 w r mb mo ra mba moa []) b (o + ((k : Int) - 1).toNat * 1) (.int .u64 (ask.getD (k - 1) 0)) := by
        have : ((k : Int) - 1).toNat = ((k - 1 : Nat) : Int).toNat := by omega
        rw [this]; exact hc'
      generalize ask.getD k 0 = v1 at *
      generalize ask.getD (k - 1) 0 = v2 at *
      focus
        refine xc_seq ?_
        refine xc_seq ?_
        refine xc_region ?_
        refine xo_rd (rd_move rfl) rfl ?_
        refine xo_rd (rd_move rfl) rfl ?_
        refine xo_rd (rd_len rfl) rfl ?_
        refine xo_rd (rd_lss rfl rfl) rfl ?_
        refine xo_nil ?_
        refine xq_seq ?_
        refine xc_dec rfl (fun h1 => ?_) (fun h1 => (by exfalso; omega))
        refine xc_skip ?_
        refine xq_seq ?_
        refine xc_seq ?_
        refine xc_block ?_
        refine xc_seq ?_
        refine xc_drawM [0, 0, 3, 4, 0, 0, 32, 80, 128, 264, 0, 1536] [0, 0, 3, 4, 0, 0, 32, 80, 128, 264, 0, 1536] ((xa ++ xw) ++ rq2 w r mb mo ra mba moa []) (by kernel_rfl) (by kernel_rfl) (by kernel_rfl) ?_
        refine xm_take 0 (m' := 1) rfl (by kernel_rfl) Sb.a (rd_move rfl) rfl (by kernel_rfl) ?_
        refine xm_take 1 (m' := 3) rfl (by kernel_rfl) Sb.a (rd_move rfl) rfl (by kernel_rfl) ?_
        refine xm_take 2 (m' := 7) rfl (by kernel_rfl) Sb.a (rd_indexAddr rfl rfl (by omega) (by omega)) rfl (by kernel_rfl) ?_
        refine xm_take 3 (m' := 15) rfl (by kernel_rfl) Sb.a (rd_load1 rfl hc) rfl (by kernel_rfl) ?_
        refine xm_take 4 (m' := 31) rfl (by kernel_rfl) Sb.a (rd_move rfl) rfl (by kernel_rfl) ?_
        refine xm_take 5 (m' := 63) rfl (by kernel_rfl) Sb.a (rd_move rfl) rfl (by kernel_rfl) ?_
        refine xm_take 6 (m' := 127) rfl (by kernel_rfl) Sb.a (rd_subn rfl rfl (by omega) (by omega)) rfl (by kernel_rfl) ?_
        refine xm_take 7 (m' := 255) rfl (by kernel_rfl) Sb.a (rd_indexAddr rfl rfl (by omega) (by omega)) rfl (by kernel_rfl) ?_
        refine xm_take 8 (m' := 511) rfl (by kernel_rfl) Sb.a (rd_load1 rfl hc2) rfl (by kernel_rfl) ?_
        refine xm_take 9 (m' := 1023) rfl (by kernel_rfl) Sb.a (rd_subn rfl rfl (by omega) (by omega)) rfl (by kernel_rfl) ?_
        refine xm_take 10 (m' := 2047) rfl (by kernel_rfl) Sb.a (rd_move rfl) rfl (by kernel_rfl) ?_
        refine xm_take 11 (m' := 4095) rfl (by kernel_rfl) Sb.a (rd_lss rfl rfl) rfl (by kernel_rfl) ?_
        refine xm_done (by kernel_rfl) ?_
        refine xq_seq ?_
        refine xc_dec rfl (fun h2 => (by exfalso; omega)) (fun h2 => ?_)
        refine xc_skip ?_
        refine xq_block ?_
        refine xq_seq ?_
        refine xc_region ?_
        refine xo_rd (rd_move rfl) rfl ?_
        refine xo_rd (rd_addn rfl rfl (by omega) (by omega)) rfl ?_
        refine xo_rd (rd_assign rfl) rfl ?_
        refine xo_nil ?_
      all_goals exact xq_roundK rfl (k + 1) ⟨by omega, by omega⟩ (by omega) (List.Sublist.refl _) (by repeat (first | exact keep_nil | refine keep_cons rfl ?_))
    · skip
      focus
        refine xc_seq ?_
        refine xc_seq ?_
        refine xc_region ?_
        refine xo_rd (rd_move rfl) rfl ?_
        refine xo_rd (rd_move rfl) rfl ?_
        refine xo_rd (rd_len rfl) rfl ?_
        refine xo_rd (rd_lss rfl rfl) rfl ?_
        refine xo_nil ?_
        refine xq_seq ?_
        refine xc_dec rfl (fun h1 => (by exfalso; omega)) (fun h1 => ?_)
        refine xc_exit ?_
        refine xq_then_exit ?_
        refine xq_then_exit ?_
        refine xq_block_hit ?_
        refine xq_seq ?_
        refine xc_seq ?_
        refine xc_region ?_
        refine xo_rd (rd_move rfl) rfl ?_
        refine xo_rd (rd_len rfl) rfl ?_
        refine xo_rd (rd_eql rfl rfl) rfl ?_
        refine xo_rd (rd_move rfl) rfl ?_
        refine xo_grd rfl rfl (rd_move rfl) rfl ?_
        refine xo_gef rfl rfl rfl (ef_call rfl (XF.mono (sent_1 (xa ++ xw) w r mb mo ra mba moa lr hor 0 ask.length hon.sn) ?_))
        rintro v L' ⟨rfl, rfl⟩
        refine xo_grd rfl rfl (rd_move rfl) rfl ?_
        refine xo_grd rfl rfl (rd_len rfl) rfl ?_
        refine xo_grd rfl rfl (rd_convn rfl (by omega) (by omega)) rfl ?_
        refine xo_grd rfl rfl (rd_eql rfl rfl) rfl ?_
        refine xo_rd (rd_pickt rfl rfl) rfl ?_
        refine xo_rd (rd_move rfl) rfl ?_
        refine xo_dec 180 rfl (fun _ => ?_) (fun h => absurd rfl h)
        refine xo_gef rfl rfl rfl (ef_call rfl (XF.mono (xf_works) ?_))
        rintro v L' ⟨rfl, rfl⟩
        refine xo_rd (rd_pickt rfl rfl) rfl ?_
        refine xo_rd (rd_assign rfl) rfl ?_
        refine xo_nil ?_
        refine xq_seq ?_
        refine xc_ret ?_
      exact xq_ret1 (.inl rfl) Try.results3 rfl rfl
  obtain ⟨a0, ha0⟩ : ∃ a0 : Ac, a0 = ⟨0, 0, 0⟩ := ⟨_, rfl⟩
  focus
    refine xc_seq ?_
    refine xc_seq ?_
    refine xc_region ?_
    refine xo_rd (rd_move rfl) rfl ?_
    refine xo_rd (rd_move rfl) rfl ?_
    refine xo_rd (rd_len rfl) rfl ?_
    refine xo_rd (rd_addn rfl rfl (by omega) (by omega)) rfl ?_
    refine xo_rd (rd_leq rfl rfl) rfl ?_
    refine xo_nil ?_
    refine xq_seq ?_
    refine xc_dec rfl (fun h1 => ?_) (fun h1 => (by exfalso; omega))
    refine xc_skip ?_
    refine xq_seq ?_
    refine xc_seq ?_
    refine xc_block ?_
    refine xc_seq ?_
    refine xc_region ?_
    refine xo_rd (rd_assign rfl) rfl ?_
    refine xo_rd (rd_assign rfl) rfl ?_
    refine xo_nil ?_
    refine xq_seq ?_
    refine xc_seq ?_
    refine xc_region ?_
    refine xo_ef rfl (ef_alloc fun r15 => ?_)
    refine xo_nil ?_
    refine xq_seq ?_
  refine xc_join (ι := RdS) (fun s => (i < n → s.by' ≤ 7 ∧ s.one = decide (s.a.src % 3 = 0) ∧ 0 ≤ s.a.src ∧ s.a.src ≤ 4294967295) ∧ (¬ i < n → s.by' = 1 ∧ s.one = false)) (fun s => (r15, Obj.cells s.a.enc.toArray 33 (0, 0)) :: ((xa ++ xw) ++ rq2 w r mb mo ra mba moa [])) (fun s => [(0, .int .u64 w), (1, .slice p n c), (5, .pointer (some ⟨r, 0, none⟩)), (7, .pointer (some ⟨ra, 0, none⟩)), (9, .slice pa ask.length ca), (10, .slice pw wan.length cw), (11, .int .u64 now), (12, .int .i64 i), (13, .int .u64 s.by'), (14, .bool s.one), (15, .pointer (some ⟨r15, 0, none⟩))]) ?_ ?_
  · by_cases hin2 : i < n
    · obtain ⟨b, o, hp, hc⟩ := hr.rows Ac.len (by decide) (by omega)
      subst hp
      have hca := hc i (by omega)
      have hEa := hE xs[i] (List.getElem_mem _)
      generalize xs[i] = a at *
      have hcA : ∀ L' (j : Nat) (u : Value), a.enc[j]? = some u → Cl W L' b (o + (i : Int).toNat * 3 + j) u := fun L' j u hj => (hca j u hj).mono fun z h => by cases h
      have hby : ((a.by' % 8).toNat : Int) = a.by' % 8 := by omega
      focus
        refine xc_seq ?_
        refine xc_region ?_
        refine xo_rd (rd_move rfl) rfl ?_
        refine xo_rd (rd_move rfl) rfl ?_
        refine xo_rd (rd_len rfl) rfl ?_
        refine xo_rd (rd_lss rfl rfl) rfl ?_
        refine xo_nil ?_
        refine xq_seq ?_
        refine xc_dec rfl (fun hz1 => ?_) (fun hz1 => (by exfalso; omega))
        refine xc_seq ?_
        refine xc_region ?_
        refine xo_rd (rd_move rfl) rfl ?_
        refine xo_rd (rd_move rfl) rfl ?_
        refine xo_rd (rd_indexAddr rfl rfl (by omega) (by omega)) rfl ?_
        refine xo_rd (rd_loadA (vs := a.enc) rfl rfl (hcA _)) rfl ?_
        refine xo_ef rfl (ef_storeB [] _ rfl rfl (by first | rfl | assumption) rfl rfl rfl ?_)
        refine xo_nil ?_
        refine xq_seq ?_
        refine xc_seq ?_
        refine xc_region ?_
        refine xo_rd (rd_fieldAddr rfl) rfl ?_
        refine xo_rd (rd_load1 rfl (Cl.o0 rfl)) rfl ?_
        refine xo_rd (rd_remn rfl rfl (by omega) (by omega)) rfl ?_
        refine xo_rd (rd_convn rfl (by omega) (by omega)) rfl ?_
        refine xo_rd (rd_assign rfl) rfl ?_
        refine xo_nil ?_
        refine xq_seq ?_
        refine xc_region ?_
        refine xo_rd (rd_fieldAddr rfl) rfl ?_
        refine xo_rd (rd_load1 rfl (Cl.o0 rfl)) rfl ?_
        refine xo_rd (rd_remn rfl rfl (by omega) (by omega)) rfl ?_
        refine xo_rd (rd_eql rfl rfl) rfl ?_
        refine xo_rd (rd_assign rfl) rfl ?_
        refine xo_nil ?_
      refine xq_joined (⟨(a.by' % 8).toNat, decide (a.src % 3 = 0), a⟩ : RdS) ⟨fun _ => ⟨by dsimp only; omega, rfl, hEa.1⟩, fun h => absurd hin2 h⟩ rfl (by dsimp only; rw [hby]; exact (by repeat (first | exact keep_nil | refine keep_cons rfl ?_)))
    · skip
      focus
        refine xc_seq ?_
        refine xc_region ?_
        refine xo_rd (rd_move rfl) rfl ?_
        refine xo_rd (rd_move rfl) rfl ?_
        refine xo_rd (rd_len rfl) rfl ?_
        refine xo_rd (rd_lss rfl rfl) rfl ?_
        refine xo_nil ?_
        refine xq_seq ?_
        refine xc_dec rfl (fun hz1 => (by exfalso; omega)) (fun hz1 => ?_)
        refine xc_skip ?_
      exact xq_joined (⟨1, false, ⟨0, 0, 0⟩⟩ : RdS) ⟨fun h => absurd h hin2, fun _ => ⟨rfl, rfl⟩⟩ rfl (by repeat (first | exact keep_nil | refine keep_cons rfl ?_))
  rintro ⟨by', one, a⟩ ⟨hA, hB⟩
  dsimp only at hA hB ⊢
  focus
    refine xc_seq ?_
    refine xc_seq ?_
    refine xc_region ?_
    refine xo_rd (rd_assign rfl) rfl ?_
    refine xo_nil ?_
    refine xq_seq ?_
    refine xc_block ?_
  have hby7 : by' ≤ 7 := by
    by_cases h : i < n
    · exact (hA h).1
    · have := (hB h).1; omega
  refine xc_loopI (ι := Nat × OnS) (fun s => s.1 ≤ by' ∧ OnO w s.2 (s.2.now + i) ∧ s.2.now = now + s.1 ∧ s.2.wan.length ≤ i ∧ (n ≤ i → s.2.wan ≠ [] → (getS s.2.lr 0).last + ((i : Int) - n) + s.1 ≤ s.2.now) ∧ (0 < s.1 → s.2.wan ≠ [] → s.2.now - (getS s.2.lr 0).last < w)) (fun s => by' - s.1) (fun s => (r15, Obj.cells a.enc.toArray 33 (0, 0)) :: s.2.bl w r mb ra mba) (fun s => [(0, .int .u64 w), (1, .slice p n c), (5, .pointer (some ⟨r, 0, none⟩)), (7, .pointer (some ⟨ra, 0, none⟩)), (9, .slice s.2.pa s.2.ask.length s.2.ca), (10, .slice s.2.pw s.2.wan.length s.2.cw), (11, .int .u64 s.2.now), (12, .int .i64 i), (13, .int .u64 by'), (14, .bool one), (15, .pointer (some ⟨r15, 0, none⟩)), (16, .int .u64 s.1)]) (0, ⟨mo, moa, lr, la, ask, wan, now, pa, ca, xa, pw, cw, xw⟩) ⟨Nat.zero_le _, ⟨hor, hoa, hon, hnow, hsa, hsw⟩, by dsimp only; omega, hwl, (fun h1 h2 => by have := hT h1 h2; dsimp only; omega), (fun h => by dsimp only at h; omega)⟩ rfl (by repeat (first | exact keep_nil | refine keep_cons rfl ?_)) ?_
  clear hor hoa hon hnow hsa hsw hwl hT hU
  rintro ⟨t, mo, moa, lr, la, ask, wan, now2, pa, ca, xa, pw, cw, xw⟩ ⟨ht, ⟨hor, hoa, hon, hnow, hsa, hsw⟩, hnw, hwl, hT, hU⟩
  dsimp only at ht hor hoa hon hnow hsa hsw hnw hwl hT hU ⊢
  unfold OnS.bl
  dsimp only
  have hal := hon.alen (by omega)
  by_cases htb : t < by'
  · obtain ⟨m, hm⟩ : ∃ m, dueS w (now2 + 1) (getS lr 0) = m := ⟨_, rfl⟩
    obtain ⟨hon2, hnot⟩ := hon.tick hnow m hm
    obtain ⟨k1, k2, k3, k4⟩ := tick_told hon m hm
    have hb1 : ∀ s, s ∈ lr → s.sent < big := fun s hs => by have := hon.bd s hs; unfold big; omega
    have hb2 : ∀ s, s ∈ la → s.sent < big := fun s hs => by have := hon.ba s hs; unfold big; omega
    obtain ⟨ds, hds⟩ : ∃ ds, tickO w lr (now2 + 1) = ds := ⟨_, rfl⟩
    obtain ⟨du, hdu⟩ : ∃ du, tickO w la (now2 + 1) = du := ⟨_, rfl⟩
    obtain ⟨lr2, hlr2⟩ : ∃ l2, tickL w lr (now2 + 1) = l2 := ⟨_, rfl⟩
    obtain ⟨la2, hla2⟩ : ∃ l2, tickL w la (now2 + 1) = l2 := ⟨_, rfl⟩
    have e1 := tick_1 (W := W) (R := []) ([(r15, Obj.cells a.enc.toArray 33 (0, 0))] ++ (xa ++ xw)) w r mb mo ra mba moa lr lr2 hor (now2 + 1) ds hlr2 hds (by omega) hb1
    have e2 := fun mo K1 => tick_2 (W := W) (R := []) ([(r15, Obj.cells a.enc.toArray 33 (0, 0))] ++ (xa ++ xw)) w r mb mo ra mba moa K1 la la2 hoa (now2 + 1) du hla2 hdu (by omega) hb2
    have hgl : getS lr2 0 = tkU w (now2 + 1) (getS lr 0) := by rw [← hlr2, getS_tick]
    rw [hlr2, hla2] at hon2
    rw [hds] at k1 k2
    rw [hdu] at k3 k4
    have hds12 : ds.length ≤ 12 := by
      rw [← hds]
      unfold tickO
      rw [List.length_map]
      exact Nat.le_trans (List.length_filter_le ..) hor.sm
    have hdu12 : du.length ≤ 12 := by
      rw [← hdu]
      unfold tickO
      rw [List.length_map]
      exact Nat.le_trans (List.length_filter_le ..) hoa.sm
    cases m with
    | true =>
      obtain ⟨rest, hrest⟩ := k1 rfl
      have k3' := k3 rfl
      have hdp : 0 < ds.length := by rw [hrest]; simp
      have hd0 : ds[0] = 0 := by simp [hrest]
      have hdup : (0 : Int) < (du.length : Int) := by omega
      simp only [if_true] at hon2
      focus
        refine xc_seq ?_
        refine xc_seq ?_
        refine xc_region ?_
        refine xo_rd (rd_move rfl) rfl ?_
        refine xo_rd (rd_move rfl) rfl ?_
        refine xo_rd (rd_lss rfl rfl) rfl ?_
        refine xo_nil ?_
        refine xq_seq ?_
        refine xc_dec rfl (fun h1 => ?_) (fun h1 => (by exfalso; omega))
        refine xc_skip ?_
        refine xq_seq ?_
        refine xc_seq ?_
        refine xc_block ?_
        refine xc_seq ?_
        refine xc_region ?_
        refine xo_rd (rd_move rfl) rfl ?_
        refine xo_rd (rd_addn rfl rfl (by omega) (by omega)) rfl ?_
        refine xo_rd (rd_assign rfl) rfl ?_
        refine xo_nil ?_
        refine xq_seq ?_
        refine xc_seq ?_
        refine xc_region ?_
        refine xo_rd (rd_move rfl) rfl ?_
        refine xo_rd (rd_move rfl) rfl ?_
        refine xo_ef rfl (ef_call rfl (XF.mono (e1) ?_))
        rintro v L' ⟨p1, q1, lo1, mo2, rfl, hO1, hr2, rfl⟩
        refine xo_rd (rd_assign rfl) rfl ?_
        refine xo_nil ?_
        refine xq_seq ?_
        refine xc_seq ?_
        refine xc_region ?_
        refine xo_rd (rd_move rfl) rfl ?_
        refine xo_rd (rd_move rfl) rfl ?_
        refine xo_ef rfl (ef_call rfl (XF.mono (e2 mo2 lo1) ?_))
        rintro v L' ⟨p2, q2, lo2, moa2, rfl, hO2, ha2, rfl⟩
        refine xo_rd (rd_assign rfl) rfl ?_
        refine xo_nil ?_
        refine xq_seq ?_
      have hrs1 : Rs W (lo2 ++ (lo1 ++ (([(r15, Obj.cells a.enc.toArray 33 (0, 0))] ++ (xa ++ xw)) ++ rq2 w r mb mo2 ra mba moa2 []))) p1 (ints .u32 ds) := hO1.rs fun z hz => List.mem_append_right _ (List.mem_append_left _ hz)
      obtain ⟨b1, o1, hpb1, hc1⟩ := hrs1.int (i := 0) hdp
      subst hpb1
      rw [hd0] at hc1
      focus
        refine xc_seq ?_
        refine xc_region ?_
        refine xo_rd (rd_move rfl) rfl ?_
        refine xo_rd (rd_len rfl) rfl ?_
        refine xo_rd (rd_gtr rfl rfl) rfl ?_
        refine xo_rd (rd_move rfl) rfl ?_
        refine xo_dec 84 rfl (fun h1 => ?_) (fun h1 => (by exfalso; omega))
        refine xo_grd rfl rfl (rd_move rfl) rfl ?_
        refine xo_grd rfl rfl (rd_indexAddr rfl rfl (by omega) (by omega)) rfl ?_
        refine xo_grd rfl rfl (rd_load1 rfl hc1) rfl ?_
        refine xo_grd rfl rfl (rd_cast (v' := .bool true) (rd_eql rfl rfl) (by rw [decide_eq_true rfl])) rfl ?_
        refine xo_rd (rd_pickt rfl rfl) rfl ?_
        refine xo_rd (rd_assign rfl) rfl ?_
        refine xo_nil ?_
        refine xq_seq ?_
        refine xc_seq ?_
        refine xc_seq ?_
        refine xc_region ?_
        refine xo_rd (rd_move rfl) rfl ?_
        refine xo_rd (rd_move rfl) rfl ?_
        refine xo_rd (rd_len rfl) rfl ?_
        refine xo_rd (rd_gtr rfl rfl) rfl ?_
        refine xo_rd (rd_cast (v' := .bool false) (rd_neb rfl rfl) (by rw [decide_eq_true hdup]; rfl)) rfl ?_
        refine xo_nil ?_
        refine xq_seq ?_
        refine xc_condf rfl ?_
        refine xc_skip ?_
        refine xq_seq ?_
        refine xc_seq ?_
        refine xc_seq ?_
        refine xc_region ?_
        refine xo_rd (rd_move rfl) rfl ?_
        refine xo_nil ?_
        refine xq_seq ?_
        refine xc_condt rfl ?_
      refine xc_perm (L' := xa ++ (lo2 ++ (lo1 ++ ((r15, Obj.cells a.enc.toArray 33 (0, 0)) :: (xw ++ rq2 w r mb mo2 ra mba moa2 []))))) (perm_o1 lo2 lo1 xa xw _) ?_
      focus
        refine xc_seq ?_
        refine xc_region ?_
        refine xo_rd (rd_move rfl) rfl ?_
        refine xo_rd (rd_move rfl) rfl ?_
        refine xo_ef rfl (ef_buildL (T := 29) (len := 1) (s := 1) (cells := (ints .u64 [now2 + 1]).toArray) rfl (by decide) (by decide) (by kernel_rfl) fun r98 => ?_)
        refine xo_ef rfl (ef_appendQS [_] (lo2 ++ (lo1 ++ ((r15, Obj.cells a.enc.toArray 33 (0, 0)) :: (xw ++ rq2 w r mb mo2 ra mba moa2 [])))) xa (news := ints .u64 [now2 + 1]) rfl rfl hsa rfl (Rs.fresh (List.Mem.head _)) rfl rfl (by decide) (by omega) (by omega) fun pa2 ca2 xa2 hsa2 hca2 => ?_)
        refine xo_rd (rd_assign rfl) rfl ?_
        refine xo_nil ?_
        refine xq_seq ?_
        refine xc_region ?_
        refine xo_rd (rd_assign rfl) rfl ?_
        refine xo_nil ?_
        refine xq_seq ?_
        refine xc_seq ?_
        refine xc_region ?_
        refine xo_rd (rd_move rfl) rfl ?_
        refine xo_rd (rd_len rfl) rfl ?_
        refine xo_rd (rd_gtr rfl rfl) rfl ?_
        refine xo_rd (rd_move rfl) rfl ?_
        refine xo_gskip rfl rfl rfl rfl ?_
        refine xo_gskip rfl rfl rfl rfl ?_
        refine xo_gskip rfl rfl rfl rfl ?_
        refine xo_gskip rfl rfl rfl rfl ?_
        refine xo_gskip rfl rfl rfl rfl ?_
        refine xo_gskip rfl rfl rfl rfl ?_
        refine xo_gskip rfl rfl rfl rfl ?_
        refine xo_rd (rd_pickf rfl rfl) rfl ?_
        refine xo_nil ?_
        refine xq_seq ?_
        refine xc_condf rfl ?_
        refine xc_skip ?_
        refine xq_block ?_
        refine xq_seq ?_
        refine xc_region ?_
        refine xo_rd (rd_move rfl) rfl ?_
        refine xo_rd (rd_addn rfl rfl (by omega) (by omega)) rfl ?_
        refine xo_rd (rd_assign rfl) rfl ?_
        refine xo_nil ?_
      refine xq_perm (perm_o2 lo2 lo1 xa2 xw _) (xq_sub (List.sublist_append_right _ _) ?_)
      refine xq_roundI ((t + 1, ⟨mo2, moa2, lr2, la2, ask ++ [now2 + 1], [], now2 + 1, pa2, ca2, xa2, none, 0, []⟩) : Nat × OnS) ⟨by dsimp only; omega, ⟨hr2, ha2, ?_, by dsimp only; omega, ?_, SlQ.nil⟩, by dsimp only; omega, Nat.zero_le _, (fun _ h => absurd rfl h), (fun _ h => absurd rfl h)⟩ (by dsimp only; omega) rfl ?_
      · dsimp only
        rw [show now2 + 1 + (i : Int) = now2 + (i : Int) + 1 by omega]; exact hon2
      · dsimp only
        rw [List.length_append, ints_app]; exact hsa2
      · dsimp only
        rw [List.length_append]; exact (by repeat (first | exact keep_nil | refine keep_cons rfl ?_))
    | false =>
      have hdu0 := k4 rfl
      subst hdu0
      simp only [Bool.false_eq_true, if_false] at hon2
      have hgl2 : getS lr2 0 = getS lr 0 := by rw [hgl]; unfold tkU; rw [hm]; rfl
      have hI : ∀ mo2 moa2, RqOk w mo2 lr2 → RqOk w moa2 la2 → t + 1 ≤ by' ∧ OnO w ⟨mo2, moa2, lr2, la2, ask, wan, now2 + 1, pa, ca, xa, pw, cw, xw⟩ (now2 + 1 + i) ∧ now2 + 1 = now + (t + 1 : Nat) ∧ wan.length ≤ i ∧ (n ≤ i → wan ≠ [] → (getS lr2 0).last + ((i : Int) - n) + (t + 1 : Nat) ≤ now2 + 1) ∧ (0 < t + 1 → wan ≠ [] → now2 + 1 - (getS lr2 0).last < w) := fun mo2 moa2 h1 h2 =>
        ⟨by omega, ⟨h1, h2, by dsimp only; rw [show now2 + 1 + (i : Int) = now2 + (i : Int) + 1 by omega]; exact hon2, by dsimp only; omega, hsa, hsw⟩, by omega, hwl, fun h3 h4 => by rw [hgl2]; have := hT h3 h4; omega, fun h3 h4 => by rw [hgl2]; exact hnot rfl h4⟩
      have hww : wan ≠ [] → (getS lr 0).last ≤ wan.getD 0 0 ∧ wan.getD 0 0 ≤ now2 ∧ now2 + 1 - wan.getD 0 0 < w := fun h => by
        have h1 := hon.wh h
        have h2 := hnot rfl h
        omega
      have hwan0 : 0 ≤ (getS lr 0).last := hon.ln.1
      generalize (getS lr 0).last = last0 at *
      by_cases hwan : wan = []
      · subst hwan
        rcases k2 rfl with hd | ⟨x, rest, hd, hx0⟩
        · subst hd
          focus
            refine xc_seq ?_
            refine xc_seq ?_
            refine xc_region ?_
            refine xo_rd (rd_move rfl) rfl ?_
            refine xo_rd (rd_move rfl) rfl ?_
            refine xo_rd (rd_lss rfl rfl) rfl ?_
            refine xo_nil ?_
            refine xq_seq ?_
            refine xc_dec rfl (fun h1 => ?_) (fun h1 => (by exfalso; omega))
            refine xc_skip ?_
            refine xq_seq ?_
            refine xc_seq ?_
            refine xc_block ?_
            refine xc_seq ?_
            refine xc_region ?_
            refine xo_rd (rd_move rfl) rfl ?_
            refine xo_rd (rd_addn rfl rfl (by omega) (by omega)) rfl ?_
            refine xo_rd (rd_assign rfl) rfl ?_
            refine xo_nil ?_
            refine xq_seq ?_
            refine xc_seq ?_
            refine xc_region ?_
            refine xo_rd (rd_move rfl) rfl ?_
            refine xo_rd (rd_move rfl) rfl ?_
            refine xo_ef rfl (ef_call rfl (XF.mono (e1) ?_))
            rintro v L' ⟨p1, q1, lo1, mo2, rfl, hO1, hr2, rfl⟩
            refine xo_rd (rd_assign rfl) rfl ?_
            refine xo_nil ?_
            refine xq_seq ?_
            refine xc_seq ?_
            refine xc_region ?_
            refine xo_rd (rd_move rfl) rfl ?_
            refine xo_rd (rd_move rfl) rfl ?_
            refine xo_ef rfl (ef_call rfl (XF.mono (e2 mo2 lo1) ?_))
            rintro v L' ⟨p2, q2, lo2, moa2, rfl, hO2, ha2, rfl⟩
            refine xo_rd (rd_assign rfl) rfl ?_
            refine xo_nil ?_
            refine xq_seq ?_
            refine xc_seq ?_
            refine xc_region ?_
            refine xo_rd (rd_move rfl) rfl ?_
            refine xo_rd (rd_len rfl) rfl ?_
            refine xo_rd (rd_gtr rfl rfl) rfl ?_
            refine xo_rd (rd_move rfl) rfl ?_
            refine xo_gskip rfl rfl rfl rfl ?_
            refine xo_gskip rfl rfl rfl rfl ?_
            refine xo_gskip rfl rfl rfl rfl ?_
            refine xo_gskip rfl rfl rfl rfl ?_
            refine xo_rd (rd_pickf rfl rfl) rfl ?_
            refine xo_rd (rd_assign rfl) rfl ?_
            refine xo_nil ?_
            refine xq_seq ?_
            refine xc_seq ?_
            refine xc_seq ?_
            refine xc_region ?_
            refine xo_rd (rd_move rfl) rfl ?_
            refine xo_rd (rd_move rfl) rfl ?_
            refine xo_rd (rd_len rfl) rfl ?_
            refine xo_rd (rd_gtr rfl rfl) rfl ?_
            refine xo_rd (rd_neb rfl rfl) rfl ?_
            refine xo_nil ?_
            refine xq_seq ?_
            refine xc_condf rfl ?_
            refine xc_skip ?_
            refine xq_seq ?_
            refine xc_seq ?_
            refine xc_seq ?_
            refine xc_region ?_
            refine xo_rd (rd_move rfl) rfl ?_
            refine xo_nil ?_
            refine xq_seq ?_
            refine xc_condf rfl ?_
            refine xc_skip ?_
            refine xq_seq ?_
            refine xc_seq ?_
            refine xc_region ?_
            refine xo_rd (rd_move rfl) rfl ?_
            refine xo_rd (rd_len rfl) rfl ?_
            refine xo_rd (rd_gtr rfl rfl) rfl ?_
            refine xo_rd (rd_move rfl) rfl ?_
            refine xo_gskip rfl rfl rfl rfl ?_
            refine xo_gskip rfl rfl rfl rfl ?_
            refine xo_gskip rfl rfl rfl rfl ?_
            refine xo_gskip rfl rfl rfl rfl ?_
            refine xo_gskip rfl rfl rfl rfl ?_
            refine xo_gskip rfl rfl rfl rfl ?_
            refine xo_gskip rfl rfl rfl rfl ?_
            refine xo_rd (rd_pickf rfl rfl) rfl ?_
            refine xo_nil ?_
            refine xq_seq ?_
            refine xc_condf rfl ?_
            refine xc_skip ?_
            refine xq_block ?_
            refine xq_seq ?_
            refine xc_region ?_
            refine xo_rd (rd_move rfl) rfl ?_
            refine xo_rd (rd_addn rfl rfl (by omega) (by omega)) rfl ?_
            refine xo_rd (rd_assign rfl) rfl ?_
            refine xo_nil ?_
          exact xq_sub ((List.sublist_append_right lo1 _).trans (List.sublist_append_right lo2 _)) (xq_roundI ((t + 1, ⟨mo2, moa2, lr2, la2, ask, [], now2 + 1, pa, ca, xa, pw, cw, xw⟩) : Nat × OnS) (hI mo2 moa2 hr2 ha2) (by dsimp only; omega) rfl (by repeat (first | exact keep_nil | refine keep_cons rfl ?_)))
        · have hdp : 0 < ds.length := by rw [hd]; simp
          have hd0 : ds[0] = x := by simp [hd]
          focus
            refine xc_seq ?_
            refine xc_seq ?_
            refine xc_region ?_
            refine xo_rd (rd_move rfl) rfl ?_
            refine xo_rd (rd_move rfl) rfl ?_
            refine xo_rd (rd_lss rfl rfl) rfl ?_
            refine xo_nil ?_
            refine xq_seq ?_
            refine xc_dec rfl (fun h1 => ?_) (fun h1 => (by exfalso; omega))
            refine xc_skip ?_
            refine xq_seq ?_
            refine xc_seq ?_
            refine xc_block ?_
            refine xc_seq ?_
            refine xc_region ?_
            refine xo_rd (rd_move rfl) rfl ?_
            refine xo_rd (rd_addn rfl rfl (by omega) (by omega)) rfl ?_
            refine xo_rd (rd_assign rfl) rfl ?_
            refine xo_nil ?_
            refine xq_seq ?_
            refine xc_seq ?_
            refine xc_region ?_
            refine xo_rd (rd_move rfl) rfl ?_
            refine xo_rd (rd_move rfl) rfl ?_
            refine xo_ef rfl (ef_call rfl (XF.mono (e1) ?_))
            rintro v L' ⟨p1, q1, lo1, mo2, rfl, hO1, hr2, rfl⟩
            refine xo_rd (rd_assign rfl) rfl ?_
            refine xo_nil ?_
            refine xq_seq ?_
            refine xc_seq ?_
            refine xc_region ?_
            refine xo_rd (rd_move rfl) rfl ?_
            refine xo_rd (rd_move rfl) rfl ?_
            refine xo_ef rfl (ef_call rfl (XF.mono (e2 mo2 lo1) ?_))
            rintro v L' ⟨p2, q2, lo2, moa2, rfl, hO2, ha2, rfl⟩
            refine xo_rd (rd_assign rfl) rfl ?_
            refine xo_nil ?_
            refine xq_seq ?_
          have hrs1 : Rs W (lo2 ++ (lo1 ++ (([(r15, Obj.cells a.enc.toArray 33 (0, 0))] ++ (xa ++ xw)) ++ rq2 w r mb mo2 ra mba moa2 []))) p1 (ints .u32 ds) := hO1.rs fun z hz => List.mem_append_right _ (List.mem_append_left _ hz)
          obtain ⟨b1, o1, hpb1, hc1⟩ := hrs1.int (i := 0) hdp
          subst hpb1
          rw [hd0] at hc1
          focus
            refine xc_seq ?_
            refine xc_region ?_
            refine xo_rd (rd_move rfl) rfl ?_
            refine xo_rd (rd_len rfl) rfl ?_
            refine xo_rd (rd_gtr rfl rfl) rfl ?_
            refine xo_rd (rd_move rfl) rfl ?_
            refine xo_dec 84 rfl (fun h1 => ?_) (fun h1 => (by exfalso; omega))
            refine xo_grd rfl rfl (rd_move rfl) rfl ?_
            refine xo_grd rfl rfl (rd_indexAddr rfl rfl (by omega) (by omega)) rfl ?_
            refine xo_grd rfl rfl (rd_load1 rfl hc1) rfl ?_
            refine xo_grd rfl rfl (rd_cast (v' := .bool false) (rd_eql rfl rfl) (by rw [decide_eq_false hx0])) rfl ?_
            refine xo_rd (rd_pickt rfl rfl) rfl ?_
            refine xo_rd (rd_assign rfl) rfl ?_
            refine xo_nil ?_
            refine xq_seq ?_
            refine xc_seq ?_
            refine xc_seq ?_
            refine xc_region ?_
            refine xo_rd (rd_move rfl) rfl ?_
            refine xo_rd (rd_move rfl) rfl ?_
            refine xo_rd (rd_len rfl) rfl ?_
            refine xo_rd (rd_gtr rfl rfl) rfl ?_
            refine xo_rd (rd_neb rfl rfl) rfl ?_
            refine xo_nil ?_
            refine xq_seq ?_
            refine xc_condf rfl ?_
            refine xc_skip ?_
            refine xq_seq ?_
            refine xc_seq ?_
            refine xc_seq ?_
            refine xc_region ?_
            refine xo_rd (rd_move rfl) rfl ?_
            refine xo_nil ?_
            refine xq_seq ?_
            refine xc_condf rfl ?_
            refine xc_skip ?_
            refine xq_seq ?_
            refine xc_seq ?_
            refine xc_region ?_
            refine xo_rd (rd_move rfl) rfl ?_
            refine xo_rd (rd_len rfl) rfl ?_
            refine xo_rd (rd_gtr rfl rfl) rfl ?_
            refine xo_rd (rd_move rfl) rfl ?_
            refine xo_gskip rfl rfl rfl rfl ?_
            refine xo_gskip rfl rfl rfl rfl ?_
            refine xo_gskip rfl rfl rfl rfl ?_
            refine xo_gskip rfl rfl rfl rfl ?_
            refine xo_gskip rfl rfl rfl rfl ?_
            refine xo_gskip rfl rfl rfl rfl ?_
            refine xo_gskip rfl rfl rfl rfl ?_
            refine xo_rd (rd_pickf rfl rfl) rfl ?_
            refine xo_nil ?_
            refine xq_seq ?_
            refine xc_condf rfl ?_
            refine xc_skip ?_
            refine xq_block ?_
            refine xq_seq ?_
            refine xc_region ?_
            refine xo_rd (rd_move rfl) rfl ?_
            refine xo_rd (rd_addn rfl rfl (by omega) (by omega)) rfl ?_
            refine xo_rd (rd_assign rfl) rfl ?_
            refine xo_nil ?_
          exact xq_sub ((List.sublist_append_right lo1 _).trans (List.sublist_append_right lo2 _)) (xq_roundI ((t + 1, ⟨mo2, moa2, lr2, la2, ask, [], now2 + 1, pa, ca, xa, pw, cw, xw⟩) : Nat × OnS) (hI mo2 moa2 hr2 ha2) (by dsimp only; omega) rfl (by repeat (first | exact keep_nil | refine keep_cons rfl ?_)))
      · have hwp : 0 < wan.length := List.length_pos_iff.2 hwan
        obtain ⟨hw3, hw4, hw5⟩ := hww hwan
        have hw6 := getD_zero hwp
        obtain ⟨b9, o9, hpw, hcw0⟩ := (hsw.rs (W := W) (L := xw) (fun z h => h)).int (i := 0) hwp
        rw [hw6] at hcw0
        subst hpw
        have hcw : ∀ (L' : List Blk), (∀ z, z ∈ xw → z ∈ L') → _ := fun L' h => hcw0.mono h
        generalize wan.getD 0 0 = v0 at *
        rcases k2 rfl with hd | ⟨x, rest, hd, hx0⟩
        · subst hd
          focus
            refine xc_seq ?_
            refine xc_seq ?_
            refine xc_region ?_
            refine xo_rd (rd_move rfl) rfl ?_
            refine xo_rd (rd_move rfl) rfl ?_
            refine xo_rd (rd_lss rfl rfl) rfl ?_
            refine xo_nil ?_
            refine xq_seq ?_
            refine xc_dec rfl (fun h1 => ?_) (fun h1 => (by exfalso; omega))
            refine xc_skip ?_
            refine xq_seq ?_
            refine xc_seq ?_
            refine xc_block ?_
            refine xc_seq ?_
            refine xc_region ?_
            refine xo_rd (rd_move rfl) rfl ?_
            refine xo_rd (rd_addn rfl rfl (by omega) (by omega)) rfl ?_
            refine xo_rd (rd_assign rfl) rfl ?_
            refine xo_nil ?_
            refine xq_seq ?_
            refine xc_seq ?_
            refine xc_region ?_
            refine xo_rd (rd_move rfl) rfl ?_
            refine xo_rd (rd_move rfl) rfl ?_
            refine xo_ef rfl (ef_call rfl (XF.mono (e1) ?_))
            rintro v L' ⟨p1, q1, lo1, mo2, rfl, hO1, hr2, rfl⟩
            refine xo_rd (rd_assign rfl) rfl ?_
            refine xo_nil ?_
            refine xq_seq ?_
            refine xc_seq ?_
            refine xc_region ?_
            refine xo_rd (rd_move rfl) rfl ?_
            refine xo_rd (rd_move rfl) rfl ?_
            refine xo_ef rfl (ef_call rfl (XF.mono (e2 mo2 lo1) ?_))
            rintro v L' ⟨p2, q2, lo2, moa2, rfl, hO2, ha2, rfl⟩
            refine xo_rd (rd_assign rfl) rfl ?_
            refine xo_nil ?_
            refine xq_seq ?_
            refine xc_seq ?_
            refine xc_region ?_
            refine xo_rd (rd_move rfl) rfl ?_
            refine xo_rd (rd_len rfl) rfl ?_
            refine xo_rd (rd_gtr rfl rfl) rfl ?_
            refine xo_rd (rd_move rfl) rfl ?_
            refine xo_gskip rfl rfl rfl rfl ?_
            refine xo_gskip rfl rfl rfl rfl ?_
            refine xo_gskip rfl rfl rfl rfl ?_
            refine xo_gskip rfl rfl rfl rfl ?_
            refine xo_rd (rd_pickf rfl rfl) rfl ?_
            refine xo_rd (rd_assign rfl) rfl ?_
            refine xo_nil ?_
            refine xq_seq ?_
            refine xc_seq ?_
            refine xc_seq ?_
            refine xc_region ?_
            refine xo_rd (rd_move rfl) rfl ?_
            refine xo_rd (rd_move rfl) rfl ?_
            refine xo_rd (rd_len rfl) rfl ?_
            refine xo_rd (rd_gtr rfl rfl) rfl ?_
            refine xo_rd (rd_neb rfl rfl) rfl ?_
            refine xo_nil ?_
            refine xq_seq ?_
            refine xc_condf rfl ?_
            refine xc_skip ?_
            refine xq_seq ?_
            refine xc_seq ?_
            refine xc_seq ?_
            refine xc_region ?_
            refine xo_rd (rd_move rfl) rfl ?_
            refine xo_nil ?_
            refine xq_seq ?_
            refine xc_condf rfl ?_
            refine xc_skip ?_
            refine xq_seq ?_
            refine xc_seq ?_
            refine xc_region ?_
            refine xo_rd (rd_move rfl) rfl ?_
            refine xo_rd (rd_len rfl) rfl ?_
            refine xo_rd (rd_gtr rfl rfl) rfl ?_
            refine xo_rd (rd_move rfl) rfl ?_
            refine xo_dec 103 rfl (fun h2 => ?_) (fun h2 => (by exfalso; omega))
            refine xo_grd rfl rfl (rd_move rfl) rfl ?_
            refine xo_grd rfl rfl (rd_move rfl) rfl ?_
            refine xo_grd rfl rfl (rd_indexAddr rfl rfl (by omega) (by omega)) rfl ?_
            refine xo_grd rfl rfl (rd_load1 rfl (hcw _ (by intro z hz; simp [hz]))) rfl ?_
            refine xo_grd rfl rfl (rd_subn rfl rfl (by omega) (by omega)) rfl ?_
            refine xo_grd rfl rfl (rd_move rfl) rfl ?_
            refine xo_grd rfl rfl (rd_geq rfl rfl) rfl ?_
            refine xo_rd (rd_pickt rfl rfl) rfl ?_
            refine xo_nil ?_
            refine xq_seq ?_
            refine xc_dec rfl (fun h3 => (by exfalso; omega)) (fun h3 => ?_)
            refine xc_skip ?_
            refine xq_block ?_
            refine xq_seq ?_
            refine xc_region ?_
            refine xo_rd (rd_move rfl) rfl ?_
            refine xo_rd (rd_addn rfl rfl (by omega) (by omega)) rfl ?_
            refine xo_rd (rd_assign rfl) rfl ?_
            refine xo_nil ?_
          exact xq_sub ((List.sublist_append_right lo1 _).trans (List.sublist_append_right lo2 _)) (xq_roundI ((t + 1, ⟨mo2, moa2, lr2, la2, ask, wan, now2 + 1, pa, ca, xa, some ⟨b9, o9, none⟩, cw, xw⟩) : Nat × OnS) (hI mo2 moa2 hr2 ha2) (by dsimp only; omega) rfl (by repeat (first | exact keep_nil | refine keep_cons rfl ?_)))
        · have hdp : 0 < ds.length := by rw [hd]; simp
          have hd0 : ds[0] = x := by simp [hd]
          focus
            refine xc_seq ?_
            refine xc_seq ?_
            refine xc_region ?_
            refine xo_rd (rd_move rfl) rfl ?_
            refine xo_rd (rd_move rfl) rfl ?_
            refine xo_rd (rd_lss rfl rfl) rfl ?_
            refine xo_nil ?_
            refine xq_seq ?_
            refine xc_dec rfl (fun h1 => ?_) (fun h1 => (by exfalso; omega))
            refine xc_skip ?_
            refine xq_seq ?_
            refine xc_seq ?_
            refine xc_block ?_
            refine xc_seq ?_
            refine xc_region ?_
            refine xo_rd (rd_move rfl) rfl ?_
            refine xo_rd (rd_addn rfl rfl (by omega) (by omega)) rfl ?_
            refine xo_rd (rd_assign rfl) rfl ?_
            refine xo_nil ?_
            refine xq_seq ?_
            refine xc_seq ?_
            refine xc_region ?_
            refine xo_rd (rd_move rfl) rfl ?_
            refine xo_rd (rd_move rfl) rfl ?_
            refine xo_ef rfl (ef_call rfl (XF.mono (e1) ?_))
            rintro v L' ⟨p1, q1, lo1, mo2, rfl, hO1, hr2, rfl⟩
            refine xo_rd (rd_assign rfl) rfl ?_
            refine xo_nil ?_
            refine xq_seq ?_
            refine xc_seq ?_
            refine xc_region ?_
            refine xo_rd (rd_move rfl) rfl ?_
            refine xo_rd (rd_move rfl) rfl ?_
            refine xo_ef rfl (ef_call rfl (XF.mono (e2 mo2 lo1) ?_))
            rintro v L' ⟨p2, q2, lo2, moa2, rfl, hO2, ha2, rfl⟩
            refine xo_rd (rd_assign rfl) rfl ?_
            refine xo_nil ?_
            refine xq_seq ?_
          have hrs1 : Rs W (lo2 ++ (lo1 ++ (([(r15, Obj.cells a.enc.toArray 33 (0, 0))] ++ (xa ++ xw)) ++ rq2 w r mb mo2 ra mba moa2 []))) p1 (ints .u32 ds) := hO1.rs fun z hz => List.mem_append_right _ (List.mem_append_left _ hz)
          obtain ⟨b1, o1, hpb1, hc1⟩ := hrs1.int (i := 0) hdp
          subst hpb1
          rw [hd0] at hc1
          focus
            refine xc_seq ?_
            refine xc_region ?_
            refine xo_rd (rd_move rfl) rfl ?_
            refine xo_rd (rd_len rfl) rfl ?_
            refine xo_rd (rd_gtr rfl rfl) rfl ?_
            refine xo_rd (rd_move rfl) rfl ?_
            refine xo_dec 84 rfl (fun h1 => ?_) (fun h1 => (by exfalso; omega))
            refine xo_grd rfl rfl (rd_move rfl) rfl ?_
            refine xo_grd rfl rfl (rd_indexAddr rfl rfl (by omega) (by omega)) rfl ?_
            refine xo_grd rfl rfl (rd_load1 rfl hc1) rfl ?_
            refine xo_grd rfl rfl (rd_cast (v' := .bool false) (rd_eql rfl rfl) (by rw [decide_eq_false hx0])) rfl ?_
            refine xo_rd (rd_pickt rfl rfl) rfl ?_
            refine xo_rd (rd_assign rfl) rfl ?_
            refine xo_nil ?_
            refine xq_seq ?_
            refine xc_seq ?_
            refine xc_seq ?_
            refine xc_region ?_
            refine xo_rd (rd_move rfl) rfl ?_
            refine xo_rd (rd_move rfl) rfl ?_
            refine xo_rd (rd_len rfl) rfl ?_
            refine xo_rd (rd_gtr rfl rfl) rfl ?_
            refine xo_rd (rd_neb rfl rfl) rfl ?_
            refine xo_nil ?_
            refine xq_seq ?_
            refine xc_condf rfl ?_
            refine xc_skip ?_
            refine xq_seq ?_
            refine xc_seq ?_
            refine xc_seq ?_
            refine xc_region ?_
            refine xo_rd (rd_move rfl) rfl ?_
            refine xo_nil ?_
            refine xq_seq ?_
            refine xc_condf rfl ?_
            refine xc_skip ?_
            refine xq_seq ?_
            refine xc_seq ?_
            refine xc_region ?_
            refine xo_rd (rd_move rfl) rfl ?_
            refine xo_rd (rd_len rfl) rfl ?_
            refine xo_rd (rd_gtr rfl rfl) rfl ?_
            refine xo_rd (rd_move rfl) rfl ?_
            refine xo_dec 103 rfl (fun h2 => ?_) (fun h2 => (by exfalso; omega))
            refine xo_grd rfl rfl (rd_move rfl) rfl ?_
            refine xo_grd rfl rfl (rd_move rfl) rfl ?_
            refine xo_grd rfl rfl (rd_indexAddr rfl rfl (by omega) (by omega)) rfl ?_
            refine xo_grd rfl rfl (rd_load1 rfl (hcw _ (by intro z hz; simp [hz]))) rfl ?_
            refine xo_grd rfl rfl (rd_subn rfl rfl (by omega) (by omega)) rfl ?_
            refine xo_grd rfl rfl (rd_move rfl) rfl ?_
            refine xo_grd rfl rfl (rd_geq rfl rfl) rfl ?_
            refine xo_rd (rd_pickt rfl rfl) rfl ?_
            refine xo_nil ?_
            refine xq_seq ?_
            refine xc_dec rfl (fun h3 => (by exfalso; omega)) (fun h3 => ?_)
            refine xc_skip ?_
            refine xq_block ?_
            refine xq_seq ?_
            refine xc_region ?_
            refine xo_rd (rd_move rfl) rfl ?_
            refine xo_rd (rd_addn rfl rfl (by omega) (by omega)) rfl ?_
            refine xo_rd (rd_assign rfl) rfl ?_
            refine xo_nil ?_
          exact xq_sub ((List.sublist_append_right lo1 _).trans (List.sublist_append_right lo2 _)) (xq_roundI ((t + 1, ⟨mo2, moa2, lr2, la2, ask, wan, now2 + 1, pa, ca, xa, some ⟨b9, o9, none⟩, cw, xw⟩) : Nat × OnS) (hI mo2 moa2 hr2 ha2) (by dsimp only; omega) rfl (by repeat (first | exact keep_nil | refine keep_cons rfl ?_)))
  have htby : t = by' := by omega
  subst htby
  by_cases hin2 : i < n
  case neg =>
    obtain ⟨hb1, hb2⟩ := hB hin2
    focus
      refine xc_seq ?_
      refine xc_seq ?_
      refine xc_region ?_
      refine xo_rd (rd_move rfl) rfl ?_
      refine xo_rd (rd_move rfl) rfl ?_
      refine xo_rd (rd_lss rfl rfl) rfl ?_
      refine xo_nil ?_
      refine xq_seq ?_
      refine xc_dec rfl (fun h1 => (by exfalso; omega)) (fun h1 => ?_)
      refine xc_exit ?_
      refine xq_then_exit ?_
      refine xq_then_exit ?_
      refine xq_block_hit ?_
      refine xq_seq ?_
      refine xc_seq ?_
      refine xc_seq ?_
      refine xc_region ?_
      refine xo_rd (rd_move rfl) rfl ?_
      refine xo_rd (rd_move rfl) rfl ?_
      refine xo_rd (rd_len rfl) rfl ?_
      refine xo_rd (rd_geq rfl rfl) rfl ?_
      refine xo_nil ?_
      refine xq_seq ?_
      refine xc_dec rfl (fun h2 => ?_) (fun h2 => (by exfalso; omega))
      refine xc_exit ?_
      refine xq_then_exit ?_
      refine xq_block_hit ?_
      refine xq_seq ?_
      refine xc_region ?_
      refine xo_rd (rd_move rfl) rfl ?_
      refine xo_rd (rd_addn rfl rfl (by omega) (by omega)) rfl ?_
      refine xo_rd (rd_assign rfl) rfl ?_
      refine xo_nil ?_
    refine xq_sub (List.sublist_cons_self _ _) (xq_roundI ((i + 1, ⟨mo, moa, lr, la, ask, wan, now2, pa, ca, xa, pw, cw, xw⟩) : Nat × OnS) ⟨by dsimp only; omega, ⟨hor, hoa, ?_, hnow, hsa, hsw⟩, by dsimp only; omega, by dsimp only; omega, (fun h1 h2 => by have := hT (by omega) h2; dsimp only; omega), (fun h1 h2 => hU (by omega) h2)⟩ (by dsimp only; omega) rfl (by repeat (first | exact keep_nil | refine keep_cons rfl ?_)))
    have := hon.up
    dsimp only
    rw [show now2 + ((i + 1 : Nat) : Int) = now2 + (i : Int) + 1 by omega]; exact this
  obtain ⟨hA1, hA2, hA3⟩ := hA hin2
  have hI2 : ∀ (s' : OnS), RqOk w s'.mo s'.lr → RqOk w s'.moa s'.la → OnI w s'.lr s'.la s'.ask s'.wan s'.now (now2 + i + 1) → s'.now = now2 → SlQ 1 22 (.slice s'.pa s'.ask.length s'.ca) s'.ask.length (ints .u64 s'.ask) s'.xa → SlQ 1 22 (.slice s'.pw s'.wan.length s'.cw) s'.wan.length (ints .u64 s'.wan) s'.xw → s'.wan.length ≤ i + 1 →
      i + 1 ≤ n + 81 ∧ OnO w s' (s'.now + (i + 1 : Nat)) ∧ s'.now ≤ 8 * (i + 1 : Nat) ∧ s'.wan.length ≤ i + 1 ∧ (n ≤ i + 1 → s'.wan ≠ [] → (getS s'.lr 0).last + (((i + 1 : Nat) : Int) - n) ≤ s'.now) ∧ (n < i + 1 → s'.wan ≠ [] → s'.now - (getS s'.lr 0).last < w) := fun s' q1 q2 q3 q4 q5 q6 q7 =>
    ⟨by omega, ⟨q1, q2, by rw [show s'.now + ((i + 1 : Nat) : Int) = now2 + (i : Int) + 1 by omega]; exact q3, by omega, q5, q6⟩, by omega, q7, (fun h1 h2 => by have := q3.ln.2; omega), (fun h1 h2 => by omega)⟩
  have hlens := hon.len
  have hb1 : ∀ x, (getS lr x).sent < big := fun x => by
    cases hf : srF lr x with
    | none => rw [getS_none hf]; show (0 : Int) < big; decide
    | some s => rw [getS_some hf]; have := hon.bd s (srF_id hf).1; unfold big; omega
  have hb2 : ∀ x, (getS la x).sent < big := fun x => by
    cases hf : srF la x with
    | none => rw [getS_none hf]; show (0 : Int) < big; decide
    | some s => rw [getS_some hf]; have := hon.ba s (srF_id hf).1; unfold big; omega
  have hk3 : 0 ≤ a.src % 3 ∧ a.src % 3 ≤ 2 := by omega
  by_cases hk : a.src % 3 = 0
  · have hone : one = true := by rw [hA2]; exact decide_eq_true hk
    subst hone
    by_cases hd : a.d.tmod 4 = 3
    · have hoi := hon.ans0.up
      focus
        refine xc_seq ?_
        refine xc_seq ?_
        refine xc_region ?_
        refine xo_rd (rd_move rfl) rfl ?_
        refine xo_rd (rd_move rfl) rfl ?_
        refine xo_rd (rd_lss rfl rfl) rfl ?_
        refine xo_nil ?_
        refine xq_seq ?_
        refine xc_dec rfl (fun hz1 => (by exfalso; omega)) (fun hz1 => ?_)
        refine xc_exit ?_
        refine xq_then_exit ?_
        refine xq_then_exit ?_
        refine xq_block_hit ?_
        refine xq_seq ?_
        refine xc_seq ?_
        refine xc_seq ?_
        refine xc_region ?_
        refine xo_rd (rd_move rfl) rfl ?_
        refine xo_rd (rd_move rfl) rfl ?_
        refine xo_rd (rd_len rfl) rfl ?_
        refine xo_rd (rd_geq rfl rfl) rfl ?_
        refine xo_nil ?_
        refine xq_seq ?_
        refine xc_dec rfl (fun hz2 => (by exfalso; omega)) (fun hz2 => ?_)
        refine xc_skip ?_
        refine xq_seq ?_
        refine xc_seq ?_
        refine xc_seq ?_
        refine xc_region ?_
        refine xo_rd (rd_fieldAddr rfl) rfl ?_
        refine xo_rd (rd_load1 rfl (Cl.o0 rfl)) rfl ?_
        refine xo_rd (rd_rem rfl rfl (by decide)) rfl ?_
        refine xo_rd (rd_eql rfl rfl) rfl ?_
        refine xo_nil ?_
        refine xq_seq ?_
        refine xc_dec rfl (fun hz3 => ?_) (fun hz3 => (by exfalso; omega))
        refine xc_seq ?_
        refine xc_region ?_
        refine xo_rd (rd_move rfl) rfl ?_
        refine xo_rd (rd_fieldAddr rfl) rfl ?_
        refine xo_rd (rd_load1 rfl (Cl.o0 rfl)) rfl ?_
        refine xo_rd (rd_remn rfl rfl (by omega) (by omega)) rfl ?_
        refine xo_ef rfl (ef_buildL (T := 34) (len := 1) (s := 1) (cells := (ints .u32 [a.src % 3]).toArray) rfl (by decide) (by decide) (by kernel_rfl) fun r124 => ?_)
        refine xo_ef rfl (ef_call rfl (XF.mono (ans_1 ([(r124, Obj.cells (ints .u32 [a.src % 3]).toArray 30 (0, 0)), (r15, Obj.cells a.enc.toArray 33 (0, 0))] ++ (xa ++ xw)) w r mb mo ra mba moa lr (ansA [0] lr) hor r124 (a.src % 3) (by rw [hk]) List.mem_cons_self) ?_))
        rintro v L' ⟨rfl, mo2, hr2, rfl⟩
        refine xo_nil ?_
        refine xq_seq ?_
        refine xc_seq ?_
        refine xc_seq ?_
        refine xc_region ?_
        refine xo_rd (rd_move rfl) rfl ?_
        refine xo_nil ?_
        refine xq_seq ?_
        refine xc_condt rfl ?_
      focus
        refine xc_seq ?_
        refine xc_region ?_
        refine xo_rd (rd_move rfl) rfl ?_
        refine xo_ef rfl (ef_buildL (T := 34) (len := 1) (s := 1) (cells := (ints .u32 [0]).toArray) rfl (by decide) (by decide) (by kernel_rfl) fun r128 => ?_)
        refine xo_ef rfl (ef_call rfl (XF.mono (ans_2 ([(r128, Obj.cells (ints .u32 [0]).toArray 30 (0, 0)), (r124, Obj.cells (ints .u32 [a.src % 3]).toArray 30 (0, 0)), (r15, Obj.cells a.enc.toArray 33 (0, 0))] ++ (xa ++ xw)) w r mb mo2 ra mba moa la (ansA [0] la) hoa r128 0 rfl List.mem_cons_self) ?_))
        rintro v L' ⟨rfl, moa2, ha2, rfl⟩
        refine xo_nil ?_
        refine xq_seq ?_
        refine xc_region ?_
        refine xo_rd (rd_assign rfl) rfl ?_
        refine xo_nil ?_
        refine xq_seq ?_
        refine xc_exit ?_
        refine xq_then_exit ?_
        refine xq_block_hit ?_
        refine xq_seq ?_
        refine xc_region ?_
        refine xo_rd (rd_move rfl) rfl ?_
        refine xo_rd (rd_addn rfl rfl (by omega) (by omega)) rfl ?_
        refine xo_rd (rd_assign rfl) rfl ?_
        refine xo_nil ?_
      exact xq_sub ((sub_o7 xa xw _).trans (List.sublist_append_right [_, _, _] _)) (xq_roundI ((i + 1, ⟨mo2, moa2, ansA [0] lr, ansA [0] la, ask, [], now2, pa, ca, xa, none, 0, []⟩) : Nat × OnS) (hI2 _ hr2 ha2 hoi rfl hsa SlQ.nil (Nat.zero_le _)) (by dsimp only; omega) rfl (by repeat (first | exact keep_nil | refine keep_cons rfl ?_)))
    · obtain ⟨b, hb⟩ : ∃ b, mayB w (getS lr 0) now2 = b := ⟨_, rfl⟩
      have hoi := hon.ask0 (by omega) hnow b hb
      have hln2 := hoi.len
      have e1 := ask_1 (W := W) (R := []) ([(r15, Obj.cells a.enc.toArray 33 (0, 0))] ++ (xa ++ xw)) w r mb mo ra mba moa lr (askL w lr 0 now2) hor (a.src % 3) now2 (by rw [hk]) (by omega) (by omega) (hb1 _) (by omega) b (by rw [hk]; exact hb)
      have e2 := fun mo => ask_2 (W := W) (R := []) ([(r15, Obj.cells a.enc.toArray 33 (0, 0))] ++ (xa ++ xw)) w r mb mo ra mba moa la (askL w la 0 now2) hoa 0 now2 rfl (by decide) (by omega) (hb2 _) (by omega) b (by rw [hon.e0]; exact hb)
      cases b with
      | true =>
        simp only [if_true] at hoi
        focus
          refine xc_seq ?_
          refine xc_seq ?_
          refine xc_region ?_
          refine xo_rd (rd_move rfl) rfl ?_
          refine xo_rd (rd_move rfl) rfl ?_
          refine xo_rd (rd_lss rfl rfl) rfl ?_
          refine xo_nil ?_
          refine xq_seq ?_
          refine xc_dec rfl (fun hz1 => (by exfalso; omega)) (fun hz1 => ?_)
          refine xc_exit ?_
          refine xq_then_exit ?_
          refine xq_then_exit ?_
          refine xq_block_hit ?_
          refine xq_seq ?_
          refine xc_seq ?_
          refine xc_seq ?_
          refine xc_region ?_
          refine xo_rd (rd_move rfl) rfl ?_
          refine xo_rd (rd_move rfl) rfl ?_
          refine xo_rd (rd_len rfl) rfl ?_
          refine xo_rd (rd_geq rfl rfl) rfl ?_
          refine xo_nil ?_
          refine xq_seq ?_
          refine xc_dec rfl (fun hz2 => (by exfalso; omega)) (fun hz2 => ?_)
          refine xc_skip ?_
          refine xq_seq ?_
          refine xc_seq ?_
          refine xc_seq ?_
          refine xc_region ?_
          refine xo_rd (rd_fieldAddr rfl) rfl ?_
          refine xo_rd (rd_load1 rfl (Cl.o0 rfl)) rfl ?_
          refine xo_rd (rd_rem rfl rfl (by decide)) rfl ?_
          refine xo_rd (rd_eql rfl rfl) rfl ?_
          refine xo_nil ?_
          refine xq_seq ?_
          refine xc_dec rfl (fun hz3 => (by exfalso; omega)) (fun hz3 => ?_)
          refine xc_skip ?_
          refine xq_seq ?_
          refine xc_seq ?_
          refine xc_region ?_
          refine xo_rd (rd_move rfl) rfl ?_
          refine xo_rd (rd_fieldAddr rfl) rfl ?_
          refine xo_rd (rd_load1 rfl (Cl.o0 rfl)) rfl ?_
          refine xo_rd (rd_remn rfl rfl (by omega) (by omega)) rfl ?_
          refine xo_rd (rd_move rfl) rfl ?_
          refine xo_ef rfl (ef_call rfl (XF.mono (e1) ?_))
          rintro v L' ⟨rfl, mo2, hr2, rfl⟩
          refine xo_rd (rd_assign rfl) rfl ?_
          refine xo_nil ?_
          refine xq_seq ?_
          refine xc_seq ?_
          refine xc_region ?_
          refine xo_rd (rd_move rfl) rfl ?_
          refine xo_nil ?_
          refine xq_seq ?_
          refine xc_condt rfl ?_
          refine xc_seq ?_
          refine xc_seq ?_
          refine xc_region ?_
          refine xo_rd (rd_move rfl) rfl ?_
          refine xo_rd (rd_move rfl) rfl ?_
          refine xo_ef rfl (ef_call rfl (XF.mono (e2 mo2) ?_))
          rintro v L' ⟨rfl, moa2, ha2, rfl⟩
          refine xo_rd (rd_move rfl) rfl ?_
          refine xo_rd (rd_neb rfl rfl) rfl ?_
          refine xo_nil ?_
          refine xq_seq ?_
          refine xc_condf rfl ?_
          refine xc_skip ?_
          refine xq_seq ?_
          refine xc_seq ?_
          refine xc_region ?_
          refine xo_rd (rd_move rfl) rfl ?_
          refine xo_nil ?_
          refine xq_seq ?_
          refine xc_condt rfl ?_
        refine xc_perm (L' := xa ++ ((r15, Obj.cells a.enc.toArray 33 (0, 0)) :: (xw ++ rq2 w r mb mo2 ra mba moa2 []))) (perm_o3 xa xw _) ?_
        focus
          refine xc_seq ?_
          refine xc_region ?_
          refine xo_rd (rd_move rfl) rfl ?_
          refine xo_rd (rd_move rfl) rfl ?_
          refine xo_ef rfl (ef_buildL (T := 29) (len := 1) (s := 1) (cells := (ints .u64 [now2]).toArray) rfl (by decide) (by decide) (by kernel_rfl) fun r98 => ?_)
          refine xo_ef rfl (ef_appendQS [_] ((r15, Obj.cells a.enc.toArray 33 (0, 0)) :: (xw ++ rq2 w r mb mo2 ra mba moa2 [])) xa (news := ints .u64 [now2]) rfl rfl hsa rfl (Rs.fresh (List.Mem.head _)) rfl rfl (by decide) (by omega) (by omega) fun pa2 ca2 xa2 hsa2 hca2 => ?_)
          refine xo_rd (rd_assign rfl) rfl ?_
          refine xo_nil ?_
          refine xq_seq ?_
          refine xc_region ?_
          refine xo_rd (rd_assign rfl) rfl ?_
          refine xo_nil ?_
          refine xq_block ?_
          refine xq_seq ?_
          refine xc_region ?_
          refine xo_rd (rd_move rfl) rfl ?_
          refine xo_rd (rd_addn rfl rfl (by omega) (by omega)) rfl ?_
          refine xo_rd (rd_assign rfl) rfl ?_
          refine xo_nil ?_
        refine xq_perm (perm_o4 xa2 xw _) (xq_sub (List.sublist_append_right _ _) ?_)
        exact xq_roundI ((i + 1, ⟨mo2, moa2, askL w lr 0 now2, askL w la 0 now2, ask ++ [now2], [], now2, pa2, ca2, xa2, none, 0, []⟩) : Nat × OnS) (hI2 _ hr2 ha2 hoi rfl (by dsimp only; rw [List.length_append, ints_app]; exact hsa2) SlQ.nil (Nat.zero_le _)) (by dsimp only; omega) rfl (by dsimp only; rw [List.length_append]; exact (by repeat (first | exact keep_nil | refine keep_cons rfl ?_)))
      | false =>
        simp only [Bool.false_eq_true, if_false] at hoi
        focus
          refine xc_seq ?_
          refine xc_seq ?_
          refine xc_region ?_
          refine xo_rd (rd_move rfl) rfl ?_
          refine xo_rd (rd_move rfl) rfl ?_
          refine xo_rd (rd_lss rfl rfl) rfl ?_
          refine xo_nil ?_
          refine xq_seq ?_
          refine xc_dec rfl (fun hz1 => (by exfalso; omega)) (fun hz1 => ?_)
          refine xc_exit ?_
          refine xq_then_exit ?_
          refine xq_then_exit ?_
          refine xq_block_hit ?_
          refine xq_seq ?_
          refine xc_seq ?_
          refine xc_seq ?_
          refine xc_region ?_
          refine xo_rd (rd_move rfl) rfl ?_
          refine xo_rd (rd_move rfl) rfl ?_
          refine xo_rd (rd_len rfl) rfl ?_
          refine xo_rd (rd_geq rfl rfl) rfl ?_
          refine xo_nil ?_
          refine xq_seq ?_
          refine xc_dec rfl (fun hz2 => (by exfalso; omega)) (fun hz2 => ?_)
          refine xc_skip ?_
          refine xq_seq ?_
          refine xc_seq ?_
          refine xc_seq ?_
          refine xc_region ?_
          refine xo_rd (rd_fieldAddr rfl) rfl ?_
          refine xo_rd (rd_load1 rfl (Cl.o0 rfl)) rfl ?_
          refine xo_rd (rd_rem rfl rfl (by decide)) rfl ?_
          refine xo_rd (rd_eql rfl rfl) rfl ?_
          refine xo_nil ?_
          refine xq_seq ?_
          refine xc_dec rfl (fun hz3 => (by exfalso; omega)) (fun hz3 => ?_)
          refine xc_skip ?_
          refine xq_seq ?_
          refine xc_seq ?_
          refine xc_region ?_
          refine xo_rd (rd_move rfl) rfl ?_
          refine xo_rd (rd_fieldAddr rfl) rfl ?_
          refine xo_rd (rd_load1 rfl (Cl.o0 rfl)) rfl ?_
          refine xo_rd (rd_remn rfl rfl (by omega) (by omega)) rfl ?_
          refine xo_rd (rd_move rfl) rfl ?_
          refine xo_ef rfl (ef_call rfl (XF.mono (e1) ?_))
          rintro v L' ⟨rfl, mo2, hr2, rfl⟩
          refine xo_rd (rd_assign rfl) rfl ?_
          refine xo_nil ?_
          refine xq_seq ?_
          refine xc_seq ?_
          refine xc_region ?_
          refine xo_rd (rd_move rfl) rfl ?_
          refine xo_nil ?_
          refine xq_seq ?_
          refine xc_condt rfl ?_
          refine xc_seq ?_
          refine xc_seq ?_
          refine xc_region ?_
          refine xo_rd (rd_move rfl) rfl ?_
          refine xo_rd (rd_move rfl) rfl ?_
          refine xo_ef rfl (ef_call rfl (XF.mono (e2 mo2) ?_))
          rintro v L' ⟨rfl, moa2, ha2, rfl⟩
          refine xo_rd (rd_move rfl) rfl ?_
          refine xo_rd (rd_neb rfl rfl) rfl ?_
          refine xo_nil ?_
          refine xq_seq ?_
          refine xc_condf rfl ?_
          refine xc_skip ?_
          refine xq_seq ?_
        refine xc_perm (L' := xw ++ ((r15, Obj.cells a.enc.toArray 33 (0, 0)) :: (xa ++ rq2 w r mb mo2 ra mba moa2 []))) (perm_o5 xa xw _) ?_
        focus
          refine xc_seq ?_
          refine xc_region ?_
          refine xo_rd (rd_move rfl) rfl ?_
          refine xo_nil ?_
          refine xq_seq ?_
          refine xc_condf rfl ?_
          refine xc_region ?_
          refine xo_rd (rd_move rfl) rfl ?_
          refine xo_rd (rd_move rfl) rfl ?_
          refine xo_ef rfl (ef_buildL (T := 29) (len := 1) (s := 1) (cells := (ints .u64 [now2]).toArray) rfl (by decide) (by decide) (by kernel_rfl) fun r98 => ?_)
          refine xo_ef rfl (ef_appendQS [_] ((r15, Obj.cells a.enc.toArray 33 (0, 0)) :: (xa ++ rq2 w r mb mo2 ra mba moa2 [])) xw (news := ints .u64 [now2]) rfl rfl hsw rfl (Rs.fresh (List.Mem.head _)) rfl rfl (by decide) (by omega) (by omega) fun pw2 cw2 xw2 hsw2 hcw2 => ?_)
          refine xo_rd (rd_assign rfl) rfl ?_
          refine xo_nil ?_
          refine xq_block ?_
          refine xq_seq ?_
          refine xc_region ?_
          refine xo_rd (rd_move rfl) rfl ?_
          refine xo_rd (rd_addn rfl rfl (by omega) (by omega)) rfl ?_
          refine xo_rd (rd_assign rfl) rfl ?_
          refine xo_nil ?_
        refine xq_perm (perm_o6 xa xw2 _) (xq_sub (List.sublist_append_right _ _) ?_)
        exact xq_roundI ((i + 1, ⟨mo2, moa2, askL w lr 0 now2, askL w la 0 now2, ask, wan ++ [now2], now2, pa, ca, xa, pw2, cw2, xw2⟩) : Nat × OnS) (hI2 _ hr2 ha2 hoi rfl hsa (by dsimp only; rw [List.length_append, ints_app]; exact hsw2) (by dsimp only; rw [List.length_append, List.length_singleton]; omega)) (by dsimp only; omega) rfl (by dsimp only; rw [List.length_append]; exact (by repeat (first | exact keep_nil | refine keep_cons rfl ?_)))
  · have hone : one = false := by rw [hA2]; exact decide_eq_false hk
    subst hone
    by_cases hd : a.d.tmod 4 = 3
    · have hoi := (hon.ansR (a.src % 3) hk).up
      focus
        refine xc_seq ?_
        refine xc_seq ?_
        refine xc_region ?_
        refine xo_rd (rd_move rfl) rfl ?_
        refine xo_rd (rd_move rfl) rfl ?_
        refine xo_rd (rd_lss rfl rfl) rfl ?_
        refine xo_nil ?_
        refine xq_seq ?_
        refine xc_dec rfl (fun h1 => (by exfalso; omega)) (fun h1 => ?_)
        refine xc_exit ?_
        refine xq_then_exit ?_
        refine xq_then_exit ?_
        refine xq_block_hit ?_
        refine xq_seq ?_
        refine xc_seq ?_
        refine xc_seq ?_
        refine xc_region ?_
        refine xo_rd (rd_move rfl) rfl ?_
        refine xo_rd (rd_move rfl) rfl ?_
        refine xo_rd (rd_len rfl) rfl ?_
        refine xo_rd (rd_geq rfl rfl) rfl ?_
        refine xo_nil ?_
        refine xq_seq ?_
        refine xc_dec rfl (fun h2 => (by exfalso; omega)) (fun h2 => ?_)
        refine xc_skip ?_
        refine xq_seq ?_
        refine xc_seq ?_
        refine xc_seq ?_
        refine xc_region ?_
        refine xo_rd (rd_fieldAddr rfl) rfl ?_
        refine xo_rd (rd_load1 rfl (Cl.o0 rfl)) rfl ?_
        refine xo_rd (rd_rem rfl rfl (by decide)) rfl ?_
        refine xo_rd (rd_eql rfl rfl) rfl ?_
        refine xo_nil ?_
        refine xq_seq ?_
        refine xc_dec rfl (fun h3 => ?_) (fun h3 => (by exfalso; omega))
        refine xc_seq ?_
        refine xc_region ?_
        refine xo_rd (rd_move rfl) rfl ?_
        refine xo_rd (rd_fieldAddr rfl) rfl ?_
        refine xo_rd (rd_load1 rfl (Cl.o0 rfl)) rfl ?_
        refine xo_rd (rd_remn rfl rfl (by omega) (by omega)) rfl ?_
        refine xo_ef rfl (ef_buildL (T := 34) (len := 1) (s := 1) (cells := (ints .u32 [a.src % 3]).toArray) rfl (by decide) (by decide) (by kernel_rfl) fun r124 => ?_)
        refine xo_ef rfl (ef_call rfl (XF.mono (ans_1 ([(r124, Obj.cells (ints .u32 [a.src % 3]).toArray 30 (0, 0)), (r15, Obj.cells a.enc.toArray 33 (0, 0))] ++ (xa ++ xw)) w r mb mo ra mba moa lr (ansA [a.src % 3] lr) hor r124 (a.src % 3) rfl List.mem_cons_self) ?_))
        rintro v L' ⟨rfl, mo2, hr2, rfl⟩
        refine xo_nil ?_
        refine xq_seq ?_
        refine xc_seq ?_
        refine xc_seq ?_
        refine xc_region ?_
        refine xo_rd (rd_move rfl) rfl ?_
        refine xo_nil ?_
        refine xq_seq ?_
        refine xc_condf rfl ?_
        refine xc_skip ?_
        refine xq_seq ?_
        refine xc_exit ?_
        refine xq_then_exit ?_
        refine xq_block_hit ?_
        refine xq_seq ?_
        refine xc_region ?_
        refine xo_rd (rd_move rfl) rfl ?_
        refine xo_rd (rd_addn rfl rfl (by omega) (by omega)) rfl ?_
        refine xo_rd (rd_assign rfl) rfl ?_
        refine xo_nil ?_
      exact xq_sub (List.sublist_append_right [_, _] _) (xq_roundI ((i + 1, ⟨mo2, moa, ansA [a.src % 3] lr, la, ask, wan, now2, pa, ca, xa, pw, cw, xw⟩) : Nat × OnS) (hI2 _ hr2 hoa hoi rfl hsa hsw (by dsimp only; omega)) (by dsimp only; omega) rfl (by repeat (first | exact keep_nil | refine keep_cons rfl ?_)))
    · have hoi := hon.askR (by omega) (a.src % 3) (by omega)
      have hln2 := hoi.len
      focus
        refine xc_seq ?_
        refine xc_seq ?_
        refine xc_region ?_
        refine xo_rd (rd_move rfl) rfl ?_
        refine xo_rd (rd_move rfl) rfl ?_
        refine xo_rd (rd_lss rfl rfl) rfl ?_
        refine xo_nil ?_
        refine xq_seq ?_
        refine xc_dec rfl (fun h1 => (by exfalso; omega)) (fun h1 => ?_)
        refine xc_exit ?_
        refine xq_then_exit ?_
        refine xq_then_exit ?_
        refine xq_block_hit ?_
        refine xq_seq ?_
        refine xc_seq ?_
        refine xc_seq ?_
        refine xc_region ?_
        refine xo_rd (rd_move rfl) rfl ?_
        refine xo_rd (rd_move rfl) rfl ?_
        refine xo_rd (rd_len rfl) rfl ?_
        refine xo_rd (rd_geq rfl rfl) rfl ?_
        refine xo_nil ?_
        refine xq_seq ?_
        refine xc_dec rfl (fun h2 => (by exfalso; omega)) (fun h2 => ?_)
        refine xc_skip ?_
        refine xq_seq ?_
        refine xc_seq ?_
        refine xc_seq ?_
        refine xc_region ?_
        refine xo_rd (rd_fieldAddr rfl) rfl ?_
        refine xo_rd (rd_load1 rfl (Cl.o0 rfl)) rfl ?_
        refine xo_rd (rd_rem rfl rfl (by decide)) rfl ?_
        refine xo_rd (rd_eql rfl rfl) rfl ?_
        refine xo_nil ?_
        refine xq_seq ?_
        refine xc_dec rfl (fun h3 => (by exfalso; omega)) (fun h3 => ?_)
        refine xc_skip ?_
        refine xq_seq ?_
        refine xc_seq ?_
        refine xc_region ?_
        refine xo_rd (rd_move rfl) rfl ?_
        refine xo_rd (rd_fieldAddr rfl) rfl ?_
        refine xo_rd (rd_load1 rfl (Cl.o0 rfl)) rfl ?_
        refine xo_rd (rd_remn rfl rfl (by omega) (by omega)) rfl ?_
        refine xo_rd (rd_move rfl) rfl ?_
        refine xo_ef rfl (ef_call rfl (XF.mono (ask_1 (W := W) (R := []) ([(r15, Obj.cells a.enc.toArray 33 (0, 0))] ++ (xa ++ xw)) w r mb mo ra mba moa lr (askL w lr (a.src % 3) now2) hor (a.src % 3) now2 rfl (by omega) (by omega) (hb1 _) (by omega) _ rfl) ?_))
        rintro v L' ⟨rfl, mo2, hr2, rfl⟩
        refine xo_rd (rd_assign rfl) rfl ?_
        refine xo_nil ?_
        refine xq_seq ?_
        refine xc_seq ?_
        refine xc_region ?_
        refine xo_rd (rd_move rfl) rfl ?_
        refine xo_nil ?_
        refine xq_seq ?_
        refine xc_condf rfl ?_
        refine xc_skip ?_
        refine xq_block ?_
        refine xq_seq ?_
        refine xc_region ?_
        refine xo_rd (rd_move rfl) rfl ?_
        refine xo_rd (rd_addn rfl rfl (by omega) (by omega)) rfl ?_
        refine xo_rd (rd_assign rfl) rfl ?_
        refine xo_nil ?_
      exact xq_sub (List.sublist_cons_self _ _) (xq_roundI ((i + 1, ⟨mo2, moa, askL w lr (a.src % 3) now2, la, ask, wan, now2, pa, ca, xa, pw, cw, xw⟩) : Nat × OnS) (hI2 _ hr2 hoa hoi rfl hsa hsw (by dsimp only; omega)) (by dsimp only; omega) rfl (by repeat (first | exact keep_nil | refine keep_cons rfl ?_)))
end Go.Proofs.Ytoolgphkfnkajaa.X
/-
  Chapter 23: the reference's requester, in memory; what is known of a source, may it be asked, who waits, who is dropped: walks of my own.
-/
namespace Go.Proofs.Ytoolgphkfnkajaa.X
open Go Go.RowKit
set_option linter.unusedVariables false
set_option linter.unusedSimpArgs false
/-- A source, in the reference's memory. -/
structure Rx where
  id : Int
  ask : List Int
  wt : Bool
  p : Option Addr
  c : Nat
def rxE (id : Int) (p : Option Addr) (n c : Nat) (wt : Bool) : List Value := [.int .u32 id, .slice p n c, .bool wt]
def Rx.enc (x : Rx) : List Value := rxE x.id x.p x.ask.length x.c x.wt
theorem Rx.len (x : Rx) : x.enc.length = 3 := rfl
def lastA (ask : List Int) : Int := ask.getD (ask.length - 1) 0
def Rx.s (x : Rx) : Sr := ⟨x.id, lastA x.ask, x.ask.length, if x.wt = true then 1 else 0⟩
structure Rz where
  w : Int
  l : List Rx
  p : Option Addr
  c : Nat
def rzE (w : Int) (p : Option Addr) (n c : Nat) : List Value := [.int .u64 w, .slice p n c]
def Rz.enc (x : Rz) : List Value := rzE x.w x.p x.l.length x.c
theorem Rz.len (x : Rz) : x.enc.length = 2 := rfl
def Rz.s (x : Rz) : List Sr := x.l.map Rx.s
structure Rz.At (W : World) (L : List Blk) (x : Rz) : Prop where
  r : Rs W L x.p (x.l.flatMap Rx.enc)
  a : ∀ u, u ∈ x.l → Rs W L u.p (ints .u64 u.ask)
  ll : x.l.length ≤ 1000
  al : ∀ u, u ∈ x.l → u.ask.length ≤ 1000
theorem Rz.At.mono {W : World} {L L' : List Blk} {x : Rz} (h : x.At W L) (hm : ∀ z, z ∈ L → z ∈ L') : x.At W L' := ⟨h.r.mono hm, fun u hu => (h.a u hu).mono hm, h.ll, h.al⟩
def rxF (l : List Rx) (id : Int) : Option Rx := l.find? fun u => u.id == id
def rx0 (id : Int) : Rx := ⟨id, [], false, none, 0⟩
def ofX (l : List Rx) (id : Int) : Rx := (rxF l id).getD (rx0 id)
theorem ofX_s (l : List Rx) (id : Int) : (ofX l id).s = getS (l.map Rx.s) id := by
  have h : srF (l.map Rx.s) id = (rxF l id).map Rx.s := by unfold srF rxF; rw [List.find?_map]; rfl
  unfold ofX getS
  rw [h]
  cases rxF l id <;> rfl
theorem ofX_id (l : List Rx) (id : Int) : (ofX l id).id = id := by
  have := congrArg Sr.id (ofX_s l id)
  rw [getS_id] at this; exact this
theorem ofX_at {W : World} {L : List Blk} {x : Rz} (hx : x.At W L) (id : Int) : Rs W L (ofX x.l id).p (ints .u64 (ofX x.l id).ask) ∧ (ofX x.l id).ask.length ≤ 1000 := by
  unfold ofX
  cases h : rxF x.l id with
  | none => exact ⟨Rs.nil, Nat.zero_le _⟩
  | some u =>
    have hu := List.mem_of_find?_eq_some h
    exact ⟨hx.a u hu, hx.al u hu⟩
theorem rxF_at {ws : List Rx} {id : Int} {i : Nat} (hi : i < ws.length) (he : ws[i].id = id) (hno : ∀ j (h : j < ws.length), j < i → ws[j].id ≠ id) : rxF ws id = some ws[i] := by
  unfold rxF
  rw [List.find?_eq_some_iff_getElem]
  exact ⟨by simp [he], i, hi, rfl, fun j hj => by simpa using hno j (by omega) hj⟩
theorem rxF_no {ws : List Rx} {id : Int} (hno : ∀ j (h : j < ws.length), ws[j].id ≠ id) : rxF ws id = none := by
  unfold rxF
  rw [List.find?_eq_none]
  intro x hx
  obtain ⟨j, hj, rfl⟩ := List.getElem_of_mem hx
  simpa using hno j hj
theorem xr_Of {W : World} {L : List Blk} (x : Rz) (hx : x.At W L) (id : Int) : XF Try.prog W 36 #[.agg x.enc.toArray, .int .u32 id] L (fun v L' => v = .agg (ofX x.l id).enc.toArray ∧ L' = L) := by
  have hxl := hx.ll
  refine xf_enter (args := [_, _]) Try.func36 rfl Try.ntmps36 rfl ?_
  focus
    refine xc_seq ?_
    refine xc_region ?_
    refine xo_ef rfl (ef_box rfl fun r2 => ?_)
    refine xo_ef rfl (ef_alloc fun r4 => ?_)
    refine xo_nil ?_
    refine xq_seq ?_
    refine xc_seq ?_
    refine xc_seq ?_
    refine xc_region ?_
    refine xo_rd (rd_assign rfl) rfl ?_
    refine xo_nil ?_
    refine xq_seq ?_
    refine xc_block ?_
  refine xc_loopK (ι := Nat) (fun i => i ≤ x.l.length ∧ ∀ j (h : j < x.l.length), j < i → x.l[j].id ≠ id) (fun i => x.l.length - i) (fun i => [(1, .int .u32 id), (2, .pointer (some ⟨r2, 0, none⟩)), (4, .pointer (some ⟨r4, 0, none⟩)), (5, .int .i64 i)]) 0 ⟨Nat.zero_le _, fun j h hj => absurd hj (Nat.not_lt_zero _)⟩ (by repeat (first | exact keep_nil | refine keep_cons rfl ?_)) ?_
  rintro i ⟨hi, hno⟩
  by_cases hin : i < x.l.length
  · obtain ⟨b, o, hp, hc⟩ := hx.r.rows Rx.len (by decide) (by omega)
    have hci := hc i hin
    obtain ⟨e, he⟩ : ∃ e, x.l[i] = e := ⟨_, rfl⟩
    rw [he] at hci
    have hci2 : ∀ L', (∀ z, z ∈ L → z ∈ L') → ∀ j u, e.enc[j]? = some u → Cl W L' b (o + (i : Int).toNat * 3 + j) u := fun L' h j u hj => (hci j u hj).mono h
    focus
      refine xc_seq ?_
      refine xc_seq ?_
      refine xc_region ?_
      refine xo_rd (rd_move rfl) rfl ?_
      refine xo_rd (rd_fieldAddr rfl) rfl ?_
      refine xo_rd (rd_cast (v' := .slice (some ⟨b, o, none⟩) x.l.length x.c) (rd_load1 rfl (Cl.own (i := 1) (List.mem_cons_of_mem _ List.mem_cons_self) rfl)) (by rw [← hp]; rfl)) rfl ?_
      refine xo_rd (rd_len rfl) rfl ?_
      refine xo_rd (rd_lss rfl rfl) rfl ?_
      refine xo_nil ?_
      refine xq_seq ?_
      refine xc_dec rfl (fun hz1 => ?_) (fun hz1 => (by exfalso; omega))
      refine xc_skip ?_
      refine xq_seq ?_
      refine xc_seq ?_
      refine xc_block ?_
      refine xc_seq ?_
      refine xc_region ?_
      refine xo_rd (rd_fieldAddr rfl) rfl ?_
      refine xo_rd (rd_cast (v' := .slice (some ⟨b, o, none⟩) x.l.length x.c) (rd_load1 rfl (Cl.own (i := 1) (List.mem_cons_of_mem _ List.mem_cons_self) rfl)) (by rw [← hp]; rfl)) rfl ?_
      refine xo_rd (rd_move rfl) rfl ?_
      refine xo_rd (rd_indexAddr rfl rfl (by omega) (by omega)) rfl ?_
      refine xo_rd (rd_fieldAddr rfl) rfl ?_
      refine xo_rd (rd_load1 rfl (hci2 _ (by intro z hz; simp [hz]) 0 _ rfl)) rfl ?_
      refine xo_rd (rd_move rfl) rfl ?_
      refine xo_rd (rd_eql rfl rfl) rfl ?_
      refine xo_nil ?_
      refine xq_seq ?_
      refine xc_dec rfl (fun hz2 => ?_) (fun hz2 => ?_)
      refine xc_seq ?_
      refine xc_region ?_
      refine xo_rd (rd_fieldAddr rfl) rfl ?_
      refine xo_rd (rd_cast (v' := .slice (some ⟨b, o, none⟩) x.l.length x.c) (rd_load1 rfl (Cl.own (i := 1) (List.mem_cons_of_mem _ List.mem_cons_self) rfl)) (by rw [← hp]; rfl)) rfl ?_
      refine xo_rd (rd_move rfl) rfl ?_
      refine xo_rd (rd_indexAddr rfl rfl (by omega) (by omega)) rfl ?_
      refine xo_rd (rd_loadA (vs := e.enc) rfl rfl (hci2 _ (by intro z hz; simp [hz]))) rfl ?_
      refine xo_ef rfl (ef_storeB [] _ rfl rfl (by first | rfl | assumption) rfl rfl rfl ?_)
      refine xo_nil ?_
      refine xq_seq ?_
      refine xc_ret ?_
      refine xq_block_ret ?_
      refine xq_then_ret ?_
      refine xq_then_ret ?_
      refine xq_block_ret ?_
      refine xq_then_ret ?_
      rotate_left
      refine xc_skip ?_
      refine xq_block ?_
      refine xq_seq ?_
      refine xc_region ?_
      refine xo_rd (rd_move rfl) rfl ?_
      refine xo_rd (rd_addn rfl rfl (by omega) (by omega)) rfl ?_
      refine xo_rd (rd_assign rfl) rfl ?_
      refine xo_nil ?_
      rotate_left
    · have hf := rxF_at hin (by rw [he]; exact hz2) hno
      unfold ofX
      rw [hf, he]
      exact xq_retB (.inl rfl) Try.results36 rfl Kn.o0 rfl (List.sublist_append_right [_, _] _) ⟨rfl, rfl⟩
    · refine xq_roundK rfl (i + 1) ⟨by omega, fun j h hj => ?_⟩ (by omega) (List.Sublist.refl _) (by repeat (first | exact keep_nil | refine keep_cons rfl ?_))
      by_cases hji : j = i
      · subst hji; rw [he]; exact hz2
      · exact hno j h (by omega)
  · have hf := rxF_no (ws := x.l) (id := id) (fun j hj => hno j hj (by omega))
    unfold ofX
    rw [hf]
    focus
      refine xc_seq ?_
      refine xc_seq ?_
      refine xc_region ?_
      refine xo_rd (rd_move rfl) rfl ?_
      refine xo_rd (rd_fieldAddr rfl) rfl ?_
      refine xo_rd (rd_load1 rfl (Cl.o1 rfl)) rfl ?_
      refine xo_rd (rd_len rfl) rfl ?_
      refine xo_rd (rd_lss rfl rfl) rfl ?_
      refine xo_nil ?_
      refine xq_seq ?_
      refine xc_dec rfl (fun h1 => (by exfalso; omega)) (fun h1 => ?_)
      refine xc_exit ?_
      refine xq_then_exit ?_
      refine xq_then_exit ?_
      refine xq_block_hit ?_
      refine xq_seq ?_
      refine xc_seq ?_
      refine xc_region ?_
      refine xo_rd (rd_move rfl) rfl ?_
      refine xo_rd (rd_cast (v' := .agg (rx0 id).enc.toArray) (rd_build (T := 76) rfl rfl rfl) (by kernel_rfl)) rfl ?_
      refine xo_ef rfl (ef_storeB [] _ rfl rfl (by first | rfl | assumption) rfl rfl rfl ?_)
      refine xo_nil ?_
      refine xq_seq ?_
      refine xc_ret ?_
    exact xq_retB (.inl rfl) Try.results36 rfl Kn.o0 rfl (List.sublist_append_right [_, _] _) ⟨rfl, rfl⟩
theorem xr_may {W : World} {L : List Blk} (z : List Value) (w : Int) (hz0 : z[0]? = some (.int .u64 w)) (hzl : z.length = 2) (hz1 : z.all (·.oneCell') = true) (u : Rx) (hu : Rs W L u.p (ints .u64 u.ask)) (hul : u.ask.length ≤ 1000) (hla : 0 ≤ lastA u.ask) (now : Int) (hn : 0 ≤ now ∧ now ≤ 18446744073709551615) (b : Bool) (hb : mayB w u.s now = b) :
    XF Try.prog W 43 #[.agg z.toArray, .agg u.enc.toArray, .int .u64 now] L (fun v L' => v = .bool b ∧ L' = L) := by
  obtain ⟨z0, z1, rfl⟩ : ∃ a b, z = [a, b] := by
    match z, hzl with
    | [a, b], _ => exact ⟨a, b, rfl⟩
  obtain rfl : z0 = .int .u64 w := by simpa using hz0
  unfold mayB Rx.s at hb
  dsimp only at hb
  refine xf_enter (args := [_, _, _]) Try.func43 rfl Try.ntmps43 rfl ?_
  by_cases h0 : u.ask = []
  · have h1 : u.ask.length = 0 := by rw [h0]; rfl
    rw [h1] at hb
    have hbt : b = true := by rw [← hb]; rfl
    subst hbt
    focus
      refine xc_seq ?_
      refine xc_region ?_
      refine xo_ef rfl (ef_box rfl fun r3 => ?_)
      refine xo_ef rfl (ef_box rfl fun r4 => ?_)
      refine xo_rd (rd_assign rfl) rfl ?_
      refine xo_nil ?_
      refine xq_seq ?_
      refine xc_seq ?_
      refine xc_seq ?_
      refine xc_region ?_
      refine xo_rd (rd_fieldAddr rfl) rfl ?_
      refine xo_rd (rd_load1 rfl (Cl.o0 rfl)) rfl ?_
      refine xo_rd (rd_len rfl) rfl ?_
      refine xo_rd (rd_eql rfl rfl) rfl ?_
      refine xo_nil ?_
      refine xq_seq ?_
      refine xc_dec rfl (fun hz1 => ?_) (fun hz1 => (by exfalso; omega))
      refine xc_seq ?_
      refine xc_region ?_
      refine xo_rd (rd_assign rfl) rfl ?_
      refine xo_nil ?_
      refine xq_seq ?_
      refine xc_ret ?_
      refine xq_then_ret ?_
    exact xq_sub (List.sublist_append_right [_, _] _) (xq_ret1 (.inl rfl) Try.results43 rfl ⟨rfl, rfl⟩)
  · have hp : 0 < u.ask.length := List.length_pos_iff.2 h0
    obtain ⟨b1, o1, hpb, hc⟩ := hu.int (i := u.ask.length - 1) (by omega)
    have e1 : u.ask[u.ask.length - 1]'(by omega) = lastA u.ask := by unfold lastA; rw [List.getD_eq_getElem?_getD, List.getElem?_eq_getElem (by omega)]; rfl
    rw [e1] at hc
    have hc2 : ∀ L', (∀ z, z ∈ L → z ∈ L') → Cl W L' b1 (o1 + ((u.ask.length : Int) - 1).toNat * 1) (.int .u64 (lastA u.ask)) := fun L' h => by
      have : ((u.ask.length : Int) - 1).toNat = ((u.ask.length - 1 : Nat) : Int).toNat := by omega
      rw [this]; exact hc.mono h
    rw [decide_eq_false (by omega), Bool.false_or] at hb
    generalize lastA u.ask = la at *
    focus
      refine xc_seq ?_
      refine xc_region ?_
      refine xo_ef rfl (ef_box rfl fun r3 => ?_)
      refine xo_ef rfl (ef_box rfl fun r4 => ?_)
      refine xo_rd (rd_assign rfl) rfl ?_
      refine xo_nil ?_
      refine xq_seq ?_
      refine xc_seq ?_
      refine xc_seq ?_
      refine xc_region ?_
      refine xo_rd (rd_fieldAddr rfl) rfl ?_
      refine xo_rd (rd_cast (v' := .slice (some ⟨b1, o1, none⟩) u.ask.length u.c) (rd_load1 rfl (Cl.own (i := 1) List.mem_cons_self rfl)) (by rw [← hpb]; rfl)) rfl ?_
      refine xo_rd (rd_len rfl) rfl ?_
      refine xo_rd (rd_eql rfl rfl) rfl ?_
      refine xo_nil ?_
      refine xq_seq ?_
      refine xc_dec rfl (fun hz1 => (by exfalso; omega)) (fun hz1 => ?_)
      refine xc_skip ?_
      refine xq_seq ?_
      refine xc_seq ?_
      refine xc_region ?_
      refine xo_rd (rd_fieldAddr rfl) rfl ?_
      refine xo_rd (rd_cast (v' := .slice (some ⟨b1, o1, none⟩) u.ask.length u.c) (rd_load1 rfl (Cl.own (i := 1) List.mem_cons_self rfl)) (by rw [← hpb]; rfl)) rfl ?_
      refine xo_rd (rd_fieldAddr rfl) rfl ?_
      refine xo_rd (rd_cast (v' := .slice (some ⟨b1, o1, none⟩) u.ask.length u.c) (rd_load1 rfl (Cl.own (i := 1) List.mem_cons_self rfl)) (by rw [← hpb]; rfl)) rfl ?_
      refine xo_rd (rd_len rfl) rfl ?_
      refine xo_rd (rd_subn rfl rfl (by omega) (by omega)) rfl ?_
      refine xo_rd (rd_indexAddr rfl rfl (by omega) (by omega)) rfl ?_
      refine xo_rd (rd_load1 rfl (hc2 _ (by intro z hz; simp [hz]))) rfl ?_
      refine xo_rd (rd_assign rfl) rfl ?_
      refine xo_nil ?_
      refine xq_seq ?_
      refine xc_seq ?_
      refine xc_region ?_
      refine xo_rd (rd_move rfl) rfl ?_
      refine xo_rd (rd_move rfl) rfl ?_
      refine xo_rd (rd_geq rfl rfl) rfl ?_
      refine xo_rd (rd_move rfl) rfl ?_
      refine xo_dec 23 rfl (fun hz2 => ?_) (fun hz2 => ?_)
      refine xo_grd rfl rfl (rd_move rfl) rfl ?_
      refine xo_grd rfl rfl (rd_move rfl) rfl ?_
      refine xo_grd rfl rfl (rd_subn rfl rfl (by omega) (by omega)) rfl ?_
      refine xo_grd rfl rfl (rd_fieldAddr rfl) rfl ?_
      refine xo_grd rfl rfl (rd_load1 rfl (Cl.o1 rfl)) rfl ?_
      refine xo_grd rfl rfl (rd_geq rfl rfl) rfl ?_
      refine xo_rd (rd_pickt rfl rfl) rfl ?_
      refine xo_rd (rd_assign rfl) rfl ?_
      refine xo_nil ?_
      refine xq_seq ?_
      refine xc_ret ?_
      rotate_left
      refine xo_gskip rfl rfl rfl rfl ?_
      refine xo_gskip rfl rfl rfl rfl ?_
      refine xo_gskip rfl rfl rfl rfl ?_
      refine xo_gskip rfl rfl rfl rfl ?_
      refine xo_gskip rfl rfl rfl rfl ?_
      refine xo_gskip rfl rfl rfl rfl ?_
      refine xo_rd (rd_pickf rfl rfl) rfl ?_
      refine xo_rd (rd_assign rfl) rfl ?_
      refine xo_nil ?_
      refine xq_seq ?_
      refine xc_ret ?_
      rotate_left
    all_goals exact xq_sub (List.sublist_append_right [_, _] _) (xq_ret1 (.inl rfl) Try.results43 rfl ⟨by rw [← hb]; simp [*], rfl⟩)
end Go.Proofs.Ytoolgphkfnkajaa.X
/-
  Chapter 23: the reference: who is dropped, who waits, when the next request may go: walks of my own.
-/
namespace Go.Proofs.Ytoolgphkfnkajaa.X
open Go Go.RowKit
set_option linter.unusedVariables false
set_option linter.unusedSimpArgs false
def dropX (l : List Rx) (id : Int) : List Rx := l.filter fun u => !decide (u.id = id)
theorem dropX_snoc (l : List Rx) (e : Rx) (id : Int) : dropX (l ++ [e]) id = dropX l id ++ if e.id = id then [] else [e] := by
  unfold dropX
  rw [List.filter_append]
  congr 1
  by_cases h : e.id = id <;> simp [h]
theorem dropX_le (l : List Rx) (id : Int) : (dropX l id).length ≤ l.length := List.length_filter_le _ _
theorem rx_one (ws : List Rx) : (ws.flatMap Rx.enc).all (·.oneCell') = true := by
  rw [List.all_flatMap, List.all_eq_true]; intro g _; rfl
set_option maxHeartbeats 800000 in
theorem xr_Drop {W : World} {L : List Blk} (x : Rz) (hx : x.At W L) (id : Int) : XF Try.prog W 34 #[.agg x.enc.toArray, .int .u32 id] L (fun v L' => ∃ q k lb, v = .agg (rzE x.w q (dropX x.l id).length k).toArray ∧ SlQ 3 76 (.slice q (dropX x.l id).length k) (dropX x.l id).length ((dropX x.l id).flatMap Rx.enc) lb ∧ L' = lb ++ L) := by
  have hxl := hx.ll
  refine xf_enter (args := [_, _]) Try.func34 rfl Try.ntmps34 rfl ?_
  focus
    refine xc_seq ?_
    refine xc_region ?_
    refine xo_ef rfl (ef_box rfl fun r2 => ?_)
    refine xo_ef rfl (ef_alloc fun r4 => ?_)
    refine xo_nil ?_
    refine xq_seq ?_
    refine xc_seq ?_
    refine xc_region ?_
    refine xo_rd (rd_assign rfl) rfl ?_
    refine xo_nil ?_
    refine xq_seq ?_
    refine xc_seq ?_
    refine xc_seq ?_
    refine xc_region ?_
    refine xo_rd (rd_assign rfl) rfl ?_
    refine xo_nil ?_
    refine xq_seq ?_
    refine xc_block ?_
  refine xc_loopI (ι := Nat × (Option Addr × Nat × List Blk)) (fun s => s.1 ≤ x.l.length ∧ SlQ 3 76 (.slice s.2.1 (dropX (x.l.take s.1) id).length s.2.2.1) (dropX (x.l.take s.1) id).length ((dropX (x.l.take s.1) id).flatMap Rx.enc) s.2.2.2) (fun s => x.l.length - s.1) (fun s => (r4, Obj.cells (rzE 0 none 0 0).toArray 57 (0, 0)) :: (r2, Obj.cells x.enc.toArray 57 (0, 0)) :: (s.2.2.2 ++ L)) (fun s => [(1, .int .u32 id), (2, .pointer (some ⟨r2, 0, none⟩)), (4, .pointer (some ⟨r4, 0, none⟩)), (5, .slice s.2.1 (dropX (x.l.take s.1) id).length s.2.2.1), (6, .int .i64 s.1)]) (0, none, 0, []) ⟨Nat.zero_le _, by dsimp only; rw [List.take_zero]; exact SlQ.nil⟩ rfl (by dsimp only; rw [List.take_zero]; exact (by repeat (first | exact keep_nil | refine keep_cons rfl ?_))) ?_
  rintro ⟨i, q, kk, lb⟩ ⟨hi, hsl⟩
  dsimp only at hi hsl ⊢
  by_cases hin : i < x.l.length
  · obtain ⟨b, o, hp, hc⟩ := hx.r.rows Rx.len (by decide) (by omega)
    have hci := hc i hin
    obtain ⟨e, hee⟩ : ∃ e, x.l[i] = e := ⟨_, rfl⟩
    rw [hee] at hci
    have hci2 : ∀ L', (∀ z, z ∈ L → z ∈ L') → ∀ j u, e.enc[j]? = some u → Cl W L' b (o + (i : Int).toNat * 3 + j) u := fun L' h j u hj => (hci j u hj).mono h
    have htk : x.l.take (i + 1) = x.l.take i ++ [e] := by rw [List.take_add_one, List.getElem?_eq_getElem hin, hee]; rfl
    have hll := dropX_le (x.l.take i) id
    rw [List.length_take] at hll
    by_cases hid : e.id = id
    · have hH : dropX (x.l.take (i + 1)) id = dropX (x.l.take i) id := by rw [htk, dropX_snoc, if_pos hid, List.append_nil]
      focus
        refine xc_seq ?_
        refine xc_seq ?_
        refine xc_region ?_
        refine xo_rd (rd_move rfl) rfl ?_
        refine xo_rd (rd_fieldAddr rfl) rfl ?_
        refine xo_rd (rd_cast (v' := .slice (some ⟨b, o, none⟩) x.l.length x.c) (rd_load1 rfl (Cl.own (i := 1) (List.mem_cons_of_mem _ List.mem_cons_self) rfl)) (by rw [← hp]; rfl)) rfl ?_
        refine xo_rd (rd_len rfl) rfl ?_
        refine xo_rd (rd_lss rfl rfl) rfl ?_
        refine xo_nil ?_
        refine xq_seq ?_
        refine xc_dec rfl (fun h1 => ?_) (fun h1 => (by exfalso; omega))
        refine xc_skip ?_
        refine xq_seq ?_
        refine xc_seq ?_
        refine xc_block ?_
        refine xc_seq ?_
        refine xc_region ?_
        refine xo_rd (rd_fieldAddr rfl) rfl ?_
        refine xo_rd (rd_cast (v' := .slice (some ⟨b, o, none⟩) x.l.length x.c) (rd_load1 rfl (Cl.own (i := 1) (List.mem_cons_of_mem _ List.mem_cons_self) rfl)) (by rw [← hp]; rfl)) rfl ?_
        refine xo_rd (rd_move rfl) rfl ?_
        refine xo_rd (rd_indexAddr rfl rfl (by omega) (by omega)) rfl ?_
        refine xo_rd (rd_fieldAddr rfl) rfl ?_
        refine xo_rd (rd_load1 rfl (hci2 _ (by intro z hz; simp [hz]) 0 _ rfl)) rfl ?_
        refine xo_rd (rd_move rfl) rfl ?_
        refine xo_rd (rd_neq rfl rfl) rfl ?_
        refine xo_nil ?_
        refine xq_seq ?_
        refine xc_ndec rfl (fun h2 => (by exfalso; omega)) (fun h2 => ?_)
        refine xc_skip ?_
        refine xq_block ?_
        refine xq_seq ?_
        refine xc_region ?_
        refine xo_rd (rd_move rfl) rfl ?_
        refine xo_rd (rd_addn rfl rfl (by omega) (by omega)) rfl ?_
        refine xo_rd (rd_assign rfl) rfl ?_
        refine xo_nil ?_
      exact xq_roundI ((i + 1, q, kk, lb) : Nat × (Option Addr × Nat × List Blk)) ⟨by dsimp only; omega, by dsimp only; rw [hH]; exact hsl⟩ (by dsimp only; omega) rfl (by dsimp only; rw [hH]; exact (by repeat (first | exact keep_nil | refine keep_cons rfl ?_)))
    · have hH : dropX (x.l.take (i + 1)) id = dropX (x.l.take i) id ++ [e] := by rw [htk, dropX_snoc, if_neg hid]
      focus
        refine xc_seq ?_
        refine xc_seq ?_
        refine xc_region ?_
        refine xo_rd (rd_move rfl) rfl ?_
        refine xo_rd (rd_fieldAddr rfl) rfl ?_
        refine xo_rd (rd_cast (v' := .slice (some ⟨b, o, none⟩) x.l.length x.c) (rd_load1 rfl (Cl.own (i := 1) (List.mem_cons_of_mem _ List.mem_cons_self) rfl)) (by rw [← hp]; rfl)) rfl ?_
        refine xo_rd (rd_len rfl) rfl ?_
        refine xo_rd (rd_lss rfl rfl) rfl ?_
        refine xo_nil ?_
        refine xq_seq ?_
        refine xc_dec rfl (fun h1 => ?_) (fun h1 => (by exfalso; omega))
        refine xc_skip ?_
        refine xq_seq ?_
        refine xc_seq ?_
        refine xc_block ?_
        refine xc_seq ?_
        refine xc_region ?_
        refine xo_rd (rd_fieldAddr rfl) rfl ?_
        refine xo_rd (rd_cast (v' := .slice (some ⟨b, o, none⟩) x.l.length x.c) (rd_load1 rfl (Cl.own (i := 1) (List.mem_cons_of_mem _ List.mem_cons_self) rfl)) (by rw [← hp]; rfl)) rfl ?_
        refine xo_rd (rd_move rfl) rfl ?_
        refine xo_rd (rd_indexAddr rfl rfl (by omega) (by omega)) rfl ?_
        refine xo_rd (rd_fieldAddr rfl) rfl ?_
        refine xo_rd (rd_load1 rfl (hci2 _ (by intro z hz; simp [hz]) 0 _ rfl)) rfl ?_
        refine xo_rd (rd_move rfl) rfl ?_
        refine xo_rd (rd_neq rfl rfl) rfl ?_
        refine xo_nil ?_
        refine xq_seq ?_
        refine xc_ndec rfl (fun h2 => ?_) (fun h2 => (by exfalso; omega))
        refine xc_region ?_
        refine xo_rd (rd_move rfl) rfl ?_
        refine xo_rd (rd_fieldAddr rfl) rfl ?_
        refine xo_rd (rd_cast (v' := .slice (some ⟨b, o, none⟩) x.l.length x.c) (rd_load1 rfl (Cl.own (i := 1) (List.mem_cons_of_mem _ List.mem_cons_self) rfl)) (by rw [← hp]; rfl)) rfl ?_
        refine xo_rd (rd_move rfl) rfl ?_
        refine xo_rd (rd_indexAddr rfl rfl (by omega) (by omega)) rfl ?_
        refine xo_rd (rd_loadA (vs := e.enc) rfl rfl (hci2 _ (by intro z hz; simp [hz]))) rfl ?_
        refine xo_ef rfl (ef_sliceA (vs := e.enc) rfl rfl (by rw [Rx.len]; decide) (by rw [Rx.len]; decide) fun r28 => ?_)
        refine xo_ef rfl (ef_appendQS [_, _, _] L lb (news := e.enc) rfl rfl hsl rfl (Rs.fresh (List.Mem.head _)) rfl rfl (by decide) (by omega) (by omega) fun q2 kk2 lb2 hO2 hk2 => ?_)
        refine xo_rd (rd_assign rfl) rfl ?_
        refine xo_nil ?_
        refine xq_block ?_
        refine xq_seq ?_
        refine xc_region ?_
        refine xo_rd (rd_move rfl) rfl ?_
        refine xo_rd (rd_addn rfl rfl (by omega) (by omega)) rfl ?_
        refine xo_rd (rd_assign rfl) rfl ?_
        refine xo_nil ?_
      exact xq_sub (List.sublist_cons_self _ _) (xq_roundI ((i + 1, q2, kk2, lb2) : Nat × (Option Addr × Nat × List Blk)) ⟨by dsimp only; omega, by dsimp only; rw [hH, List.length_append, List.flatMap_append, List.flatMap_singleton]; exact hO2⟩ (by dsimp only; omega) rfl (by dsimp only; rw [hH, List.length_append]; exact (by repeat (first | exact keep_nil | refine keep_cons rfl ?_))))
  · rw [List.take_of_length_le (by omega)] at hsl ⊢
    focus
      refine xc_seq ?_
      refine xc_seq ?_
      refine xc_region ?_
      refine xo_rd (rd_move rfl) rfl ?_
      refine xo_rd (rd_fieldAddr rfl) rfl ?_
      refine xo_rd (rd_load1 rfl (Cl.o1 rfl)) rfl ?_
      refine xo_rd (rd_len rfl) rfl ?_
      refine xo_rd (rd_lss rfl rfl) rfl ?_
      refine xo_nil ?_
      refine xq_seq ?_
      refine xc_dec rfl (fun h1 => (by exfalso; omega)) (fun h1 => ?_)
      refine xc_exit ?_
      refine xq_then_exit ?_
      refine xq_then_exit ?_
      refine xq_block_hit ?_
      refine xq_seq ?_
      refine xc_seq ?_
      refine xc_region ?_
      refine xo_rd (rd_fieldAddr rfl) rfl ?_
      refine xo_rd (rd_load1 rfl (Cl.o1 rfl)) rfl ?_
      refine xo_rd (rd_move rfl) rfl ?_
      refine xo_rd (rd_cast (v' := .agg (rzE x.w q (dropX x.l id).length kk).toArray) (rd_build (T := 57) rfl rfl rfl) (by kernel_rfl)) rfl ?_
      refine xo_ef rfl (ef_storeB [] _ rfl rfl (by first | rfl | assumption) rfl rfl rfl ?_)
      refine xo_nil ?_
      refine xq_seq ?_
      refine xc_ret ?_
    exact xq_retB (.inl rfl) Try.results34 rfl Kn.o0 rfl (List.sublist_append_right [_, _] _) ⟨q, kk, lb, rfl, hsl, rfl⟩
def waitX (l : List Rx) : List Int := (l.filter fun u => u.wt).map Rx.id
theorem waitX_eq (l : List Rx) : waitX l = waitL (l.map Rx.s) := by
  unfold waitX waitL
  rw [List.filter_map, List.map_map]
  congr 1
  refine List.filter_congr fun u _ => ?_
  show u.wt = decide (0 < (if u.wt = true then (1 : Int) else 0))
  cases u.wt <;> rfl
theorem waitX_snoc (l : List Rx) (e : Rx) : waitX (l ++ [e]) = waitX l ++ if e.wt = true then [e.id] else [] := by
  unfold waitX
  rw [List.filter_append, List.map_append]
  congr 1
  by_cases h : e.wt = true <;> simp [h]
theorem waitX_le (l : List Rx) : (waitX l).length ≤ l.length := by unfold waitX; rw [List.length_map]; exact List.length_filter_le _ _
set_option maxHeartbeats 800000 in
theorem xr_Waiting {W : World} {L : List Blk} (x : Rz) (hx : x.At W L) : XF Try.prog W 38 #[.agg x.enc.toArray] L (fun v L' => ∃ q k lb, v = .slice q (waitX x.l).length k ∧ SlQ 1 30 (.slice q (waitX x.l).length k) (waitX x.l).length (ints .u32 (waitX x.l)) lb ∧ L' = lb ++ L) := by
  have hxl := hx.ll
  refine xf_enter (args := [_]) Try.func38 rfl Try.ntmps38 rfl ?_
  focus
    refine xc_seq ?_
    refine xc_region ?_
    refine xo_ef rfl (ef_box rfl fun r1 => ?_)
    refine xo_rd (rd_assign rfl) rfl ?_
    refine xo_nil ?_
    refine xq_seq ?_
    refine xc_seq ?_
    refine xc_region ?_
    refine xo_rd (rd_assign rfl) rfl ?_
    refine xo_nil ?_
    refine xq_seq ?_
    refine xc_seq ?_
    refine xc_seq ?_
    refine xc_region ?_
    refine xo_rd (rd_assign rfl) rfl ?_
    refine xo_nil ?_
    refine xq_seq ?_
    refine xc_block ?_
  refine xc_loopI (ι := Nat × (Option Addr × Nat × List Blk)) (fun s => s.1 ≤ x.l.length ∧ SlQ 1 30 (.slice s.2.1 (waitX (x.l.take s.1)).length s.2.2.1) (waitX (x.l.take s.1)).length (ints .u32 (waitX (x.l.take s.1))) s.2.2.2) (fun s => x.l.length - s.1) (fun s => (r1, Obj.cells x.enc.toArray 57 (0, 0)) :: (s.2.2.2 ++ L)) (fun s => [(1, .pointer (some ⟨r1, 0, none⟩)), (3, .slice s.2.1 (waitX (x.l.take s.1)).length s.2.2.1), (4, .int .i64 s.1)]) (0, none, 0, []) ⟨Nat.zero_le _, by dsimp only; rw [List.take_zero]; exact SlQ.nil⟩ rfl (by dsimp only; rw [List.take_zero]; exact (by repeat (first | exact keep_nil | refine keep_cons rfl ?_))) ?_
  rintro ⟨i, q, kk, lb⟩ ⟨hi, hsl⟩
  dsimp only at hi hsl ⊢
  by_cases hin : i < x.l.length
  · obtain ⟨b, o, hp, hc⟩ := hx.r.rows Rx.len (by decide) (by omega)
    have hci := hc i hin
    obtain ⟨e, hee⟩ : ∃ e, x.l[i] = e := ⟨_, rfl⟩
    rw [hee] at hci
    have hci2 : ∀ L', (∀ z, z ∈ L → z ∈ L') → ∀ j u, e.enc[j]? = some u → Cl W L' b (o + (i : Int).toNat * 3 + j) u := fun L' h j u hj => (hci j u hj).mono h
    have htk : x.l.take (i + 1) = x.l.take i ++ [e] := by rw [List.take_add_one, List.getElem?_eq_getElem hin, hee]; rfl
    have hll := waitX_le (x.l.take i)
    rw [List.length_take] at hll
    cases hid : e.wt with
    | false =>
      have hH : waitX (x.l.take (i + 1)) = waitX (x.l.take i) := by rw [htk, waitX_snoc, hid]; simp
      focus
        refine xc_seq ?_
        refine xc_seq ?_
        refine xc_region ?_
        refine xo_rd (rd_move rfl) rfl ?_
        refine xo_rd (rd_fieldAddr rfl) rfl ?_
        refine xo_rd (rd_cast (v' := .slice (some ⟨b, o, none⟩) x.l.length x.c) (rd_load1 rfl (Cl.own (i := 1) List.mem_cons_self rfl)) (by rw [← hp]; rfl)) rfl ?_
        refine xo_rd (rd_len rfl) rfl ?_
        refine xo_rd (rd_lss rfl rfl) rfl ?_
        refine xo_nil ?_
        refine xq_seq ?_
        refine xc_dec rfl (fun h1 => ?_) (fun h1 => (by exfalso; omega))
        refine xc_skip ?_
        refine xq_seq ?_
        refine xc_seq ?_
        refine xc_block ?_
        refine xc_seq ?_
        refine xc_region ?_
        refine xo_rd (rd_fieldAddr rfl) rfl ?_
        refine xo_rd (rd_cast (v' := .slice (some ⟨b, o, none⟩) x.l.length x.c) (rd_load1 rfl (Cl.own (i := 1) List.mem_cons_self rfl)) (by rw [← hp]; rfl)) rfl ?_
        refine xo_rd (rd_move rfl) rfl ?_
        refine xo_rd (rd_indexAddr rfl rfl (by omega) (by omega)) rfl ?_
        refine xo_rd (rd_fieldAddr rfl) rfl ?_
        refine xo_rd (rd_cast (v' := .bool false) (rd_load1 rfl (hci2 _ (by intro z hz; simp [hz]) 2 _ rfl)) (by rw [hid])) rfl ?_
        refine xo_nil ?_
        refine xq_seq ?_
        refine xc_condf rfl ?_
        refine xc_skip ?_
        refine xq_block ?_
        refine xq_seq ?_
        refine xc_region ?_
        refine xo_rd (rd_move rfl) rfl ?_
        refine xo_rd (rd_addn rfl rfl (by omega) (by omega)) rfl ?_
        refine xo_rd (rd_assign rfl) rfl ?_
        refine xo_nil ?_
      exact xq_roundI ((i + 1, q, kk, lb) : Nat × (Option Addr × Nat × List Blk)) ⟨by dsimp only; omega, by dsimp only; rw [hH]; exact hsl⟩ (by dsimp only; omega) rfl (by dsimp only; rw [hH]; exact (by repeat (first | exact keep_nil | refine keep_cons rfl ?_)))
    | true =>
      have hH : waitX (x.l.take (i + 1)) = waitX (x.l.take i) ++ [e.id] := by rw [htk, waitX_snoc, hid]; simp
      focus
        refine xc_seq ?_
        refine xc_seq ?_
        refine xc_region ?_
        refine xo_rd (rd_move rfl) rfl ?_
        refine xo_rd (rd_fieldAddr rfl) rfl ?_
        refine xo_rd (rd_cast (v' := .slice (some ⟨b, o, none⟩) x.l.length x.c) (rd_load1 rfl (Cl.own (i := 1) List.mem_cons_self rfl)) (by rw [← hp]; rfl)) rfl ?_
        refine xo_rd (rd_len rfl) rfl ?_
        refine xo_rd (rd_lss rfl rfl) rfl ?_
        refine xo_nil ?_
        refine xq_seq ?_
        refine xc_dec rfl (fun h1 => ?_) (fun h1 => (by exfalso; omega))
        refine xc_skip ?_
        refine xq_seq ?_
        refine xc_seq ?_
        refine xc_block ?_
        refine xc_seq ?_
        refine xc_region ?_
        refine xo_rd (rd_fieldAddr rfl) rfl ?_
        refine xo_rd (rd_cast (v' := .slice (some ⟨b, o, none⟩) x.l.length x.c) (rd_load1 rfl (Cl.own (i := 1) List.mem_cons_self rfl)) (by rw [← hp]; rfl)) rfl ?_
        refine xo_rd (rd_move rfl) rfl ?_
        refine xo_rd (rd_indexAddr rfl rfl (by omega) (by omega)) rfl ?_
        refine xo_rd (rd_fieldAddr rfl) rfl ?_
        refine xo_rd (rd_cast (v' := .bool true) (rd_load1 rfl (hci2 _ (by intro z hz; simp [hz]) 2 _ rfl)) (by rw [hid])) rfl ?_
        refine xo_nil ?_
        refine xq_seq ?_
        refine xc_condt rfl ?_
        refine xc_region ?_
        refine xo_rd (rd_move rfl) rfl ?_
        refine xo_rd (rd_fieldAddr rfl) rfl ?_
        refine xo_rd (rd_cast (v' := .slice (some ⟨b, o, none⟩) x.l.length x.c) (rd_load1 rfl (Cl.own (i := 1) List.mem_cons_self rfl)) (by rw [← hp]; rfl)) rfl ?_
        refine xo_rd (rd_move rfl) rfl ?_
        refine xo_rd (rd_indexAddr rfl rfl (by omega) (by omega)) rfl ?_
        refine xo_rd (rd_fieldAddr rfl) rfl ?_
        refine xo_rd (rd_load1 rfl (hci2 _ (by intro z hz; simp [hz]) 0 _ rfl)) rfl ?_
        refine xo_ef rfl (ef_buildL (T := 34) (len := 1) (s := 1) (cells := (ints .u32 [e.id]).toArray) rfl (by decide) (by decide) (by kernel_rfl) fun r28 => ?_)
        refine xo_ef rfl (ef_appendQS [_, _] L lb (news := ints .u32 [e.id]) rfl rfl hsl rfl (Rs.fresh (List.Mem.head _)) rfl rfl (by decide) (by omega) (by omega) fun q2 kk2 lb2 hO2 hk2 => ?_)
        refine xo_rd (rd_assign rfl) rfl ?_
        refine xo_nil ?_
        refine xq_block ?_
        refine xq_seq ?_
        refine xc_region ?_
        refine xo_rd (rd_move rfl) rfl ?_
        refine xo_rd (rd_addn rfl rfl (by omega) (by omega)) rfl ?_
        refine xo_rd (rd_assign rfl) rfl ?_
        refine xo_nil ?_
      exact xq_sub (List.sublist_cons_self _ _) (xq_roundI ((i + 1, q2, kk2, lb2) : Nat × (Option Addr × Nat × List Blk)) ⟨by dsimp only; omega, by dsimp only; rw [hH, List.length_append, ints_app]; exact hO2⟩ (by dsimp only; omega) rfl (by dsimp only; rw [hH, List.length_append]; exact (by repeat (first | exact keep_nil | refine keep_cons rfl ?_))))
  · rw [List.take_of_length_le (by omega)] at hsl ⊢
    focus
      refine xc_seq ?_
      refine xc_seq ?_
      refine xc_region ?_
      refine xo_rd (rd_move rfl) rfl ?_
      refine xo_rd (rd_fieldAddr rfl) rfl ?_
      refine xo_rd (rd_load1 rfl (Cl.o0 rfl)) rfl ?_
      refine xo_rd (rd_len rfl) rfl ?_
      refine xo_rd (rd_lss rfl rfl) rfl ?_
      refine xo_nil ?_
      refine xq_seq ?_
      refine xc_dec rfl (fun h1 => (by exfalso; omega)) (fun h1 => ?_)
      refine xc_exit ?_
      refine xq_then_exit ?_
      refine xq_then_exit ?_
      refine xq_block_hit ?_
      refine xq_seq ?_
      refine xc_seq ?_
      refine xc_region ?_
      refine xo_rd (rd_move rfl) rfl ?_
      refine xo_rd (rd_assign rfl) rfl ?_
      refine xo_nil ?_
      refine xq_seq ?_
      refine xc_ret ?_
    exact xq_sub (List.sublist_cons_self _ _) (xq_ret1 (.inl rfl) Try.results38 rfl ⟨q, kk, lb, rfl, hsl, rfl⟩)
end Go.Proofs.Ytoolgphkfnkajaa.X
