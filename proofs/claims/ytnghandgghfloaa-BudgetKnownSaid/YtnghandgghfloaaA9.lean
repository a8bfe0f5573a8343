/-
  The plans in a row, collected from the iterator: walks of my own.
-/
import Derived.Test.YtnghandgghfloaaA8
import Derived.Test.YtnghandgghfloaaX17
namespace Go.Proofs.Ytnghandgghfloaa.X
open Go Go.RowKit
set_option linter.unusedVariables false
set_option linter.unusedSimpArgs false
theorem flat_sub {m : Nat} {β : Type} (f : Pw → List β) (xs : List (Pm m)) : (xs.map (fun w => w.1)).flatMap f = xs.flatMap (fun w => f w.1) := List.flatMap_map ..
theorem Pw.one {w : Pw} (h : w.Is) : w.enc.all (·.oneCell') = true := by
  obtain ⟨cap, on, v, l⟩ := w
  obtain ⟨p, k, h1, _⟩ := h.opn
  dsimp only at h1
  subst h1
  rfl
theorem xqd_block {W : World} {n id : Nat} {ds : List Deferred} {Q : Exit → Go.Act → World → Prop} {L : List Blk} {E : List (Nat × Value)} (h : XQ W n (Qd ds Q) .normal L E) : XQ W n (Qd ds (Exit.inBlock id Q)) .normal L E := .mk fun a w ha hw => h.run a w ha hw
theorem SlO.one {s : Nat} {e : TypeId} {v : Value} {m : Nat} {xs : List Value} {l : List Blk} (h : SlO s e v m xs l) : v.oneCell' = true := by
  obtain ⟨p, c, rfl⟩ := h.val
  rfl
set_option maxHeartbeats 2000000 in
theorem xf_seq {W : World} {L : List Blk} (r : Nat) (p q : Option Addr) (n c m d : Nat) (ct cm : List Int) (hn : ct.length = n) (hm : cm.length = m) (hbx : (r, Obj.cells #[.slice p n c, .slice q m d] 25 (0, 0)) ∈ L) (hr : Rs W L p (ints .u64 ct)) (hb : n ≤ 1000) (hb2 : m ≤ 1000) :
    XF Try.prog W 33 #[.slice none 0 0, .func (.func 30) #[] #[.pointer (some ⟨r, 0, none⟩)]] L (fun v L' => ∃ s k lo ws, v = .slice s (ws : List Pw).length k ∧ SlO 2 36 (.slice s ws.length k) ws.length (ws.flatMap Pw.enc) lo ∧ (∀ w, w ∈ ws → w.Is) ∧ ws.map Pw.pl = pls ct cm ∧ (∀ w, w ∈ ws → w.on.length = m) ∧ ws.length ≤ 1000 ∧ L' = lo ++ (ws.flatMap Pw.l ++ L)) := by
  refine xf_enterM (args := [_, _]) Try.func33 rfl Try.ntmps33 rfl ?_
  refine xci_seq (xci_wide ?_)
  focus
    refine xc_region ?_
    refine xo_ef rfl (ef_box rfl fun r2 => ?_)
    refine xo_rd (rd_assign rfl) rfl ?_
    refine xo_nil ?_
  refine xci_tail0 (xci_seq (xci_seq (xci_wide ?_)))
  focus
    refine xc_region ?_
    refine xo_rd (rd_move rfl) rfl ?_
    refine xo_nil ?_
  refine xci_tail0 (xci_block (xci_range (it_all L r p q n c m d ct cm hn hm hr hb hb2) rfl (Cf.h (P := Try.prog) (f := 30)) (by decide)
    (fun pre L' => pre.length ≤ 1000 ∧ ∃ v lo, SlO 2 36 v pre.length (pre.flatMap (fun w : Pm m => w.1.enc)) lo ∧ L' = (r2, .cells #[v] 46 (0, 0)) :: (lo ++ (pre.flatMap (fun w : Pm m => w.1.l) ++ L)))
    (fun _ _ _ => False) ?_ ⟨Nat.zero_le _, _, [], SlO.nil, rfl⟩
    (ι := Nat) (fun pre x L' r5 => (r5, .cells x.1.enc.toArray 36 (0, 0)) :: (x.1.l ++ L')) (fun _ _ _ r5 => [(2, .pointer (some ⟨r2, 0, none⟩)), (5, .pointer (some ⟨r5, 0, none⟩))]) ?_ ?_ ?_ (fun _ _ _ _ _ h => h.elim)))
  · rintro pre L' ⟨_, v, lo, _, rfl⟩ z hz
    refine List.mem_cons_of_mem _ (List.mem_append_right _ (List.mem_append_right _ ?_))
    rcases List.mem_cons.1 hz with rfl | hz
    · exact hbx
    · exact hz
  · intro l pre x A L' hI hlen
    have hWd : Wd (Fence.wide.inRound l) := .inr ⟨l, rfl⟩
    refine xci_region ?_
    refine xi_ef hWd (fun _ h => by cases h) rfl (ef_alloc fun r5 => ?_)
    refine xi_ef hWd (fun _ h => by cases h) rfl (ef_storeB [] _ (vs := x.1.enc) rfl rfl (Pw.one x.2.1) rfl rfl rfl ?_)
    refine xi_nil (xq_d0 (.mk fun a w ha hw => ⟨r5, ha.keep (by repeat (first | exact keep_nil | refine keep_cons rfl ?_)), hw.perm (by classical exact List.perm_iff_count.2 fun a => by simp only [List.append_eq, List.count_append, List.count_cons, List.count_nil, List.cons_append, List.nil_append, List.flatMap_append, List.flatMap_cons, List.flatMap_nil, List.append_nil]; omega)⟩))
  · rintro l pre x A L' r5 ⟨hle, v, lo, hO, rfl⟩ hlen
    have hWd : Wd (Fence.wide.inRound l) := .inr ⟨l, rfl⟩
    refine xci_block (xci_region ?_)
    refine xi_perm (L' := (r2, .cells #[v] 46 (0, 0)) :: (r5, .cells x.1.enc.toArray 36 (0, 0)) :: (lo ++ (A ++ (x.1.l ++ (pre.flatMap (fun w : Pm m => w.1.l) ++ L))))) (by classical exact List.perm_iff_count.2 fun a => by simp only [List.append_eq, List.count_append, List.count_cons, List.count_nil, List.cons_append, List.nil_append, List.flatMap_append, List.flatMap_cons, List.flatMap_nil, List.append_nil]; omega) ?_
    refine xi_rd hWd (fun _ h => by cases h) (rd_load1 rfl (Cl.o0 rfl)) rfl ?_
    refine xi_rd hWd (fun _ h => by cases h) (rd_loadB rfl Kn.o1 rfl) rfl ?_
    refine xi_ef hWd (fun _ h => by cases h) rfl (ef_sliceA (vs := x.1.enc) rfl rfl (by rw [Pw.len]; decide) (by rw [Pw.len]; decide) fun r10 => ?_)
    refine xi_ef hWd (fun _ h => by cases h) rfl (ef_append [_, _, _] (A ++ (x.1.l ++ (pre.flatMap (fun w : Pm m => w.1.l) ++ L))) lo (news := x.1.enc) rfl rfl hO rfl (Rs.fresh (List.Mem.head _)) rfl (Pw.one x.2.1) (by decide) (by omega) (by omega) fun v3 lo3 hO3 => ?_)
    refine xi_ef hWd (fun _ h => by cases h) rfl (ef_store1 [_] _ rfl rfl hO3.one rfl rfl rfl ?_)
    refine xi_nil (xq_d0 (xq_block (.mk fun a w ha hw => ⟨(r2, .cells #[v3] 46 (0, 0)) :: (lo3 ++ ((pre ++ [x]).flatMap (fun w : Pm m => w.1.l) ++ L)), ⟨by rw [List.length_append]; exact hlen, v3, lo3, ?_, rfl⟩, ?_⟩)))
    · rw [List.flatMap_append, List.length_append]; simpa using hO3
    · replace hw : Hp W w ((r10, .cells x.1.enc.toArray 36 (0, 0)) :: (r2, .cells #[v3] 46 (0, 0)) :: (r5, .cells x.1.enc.toArray 36 (0, 0)) :: (lo3 ++ (A ++ (x.1.l ++ (pre.flatMap (fun w : Pm m => w.1.l) ++ L))))) := hw
      refine (hw.perm (L' := (r10, .cells x.1.enc.toArray 36 (0, 0)) :: (r5, .cells x.1.enc.toArray 36 (0, 0)) :: (A ++ ((r2, .cells #[v3] 46 (0, 0)) :: (lo3 ++ ((pre ++ [x]).flatMap (fun w : Pm m => w.1.l) ++ L))))) ?_).sub ((List.sublist_cons_self _ _).trans (List.sublist_cons_self _ _))
      exact (by classical exact List.perm_iff_count.2 fun a => by simp only [List.append_eq, List.count_append, List.count_cons, List.count_nil, List.cons_append, List.nil_append, List.flatMap_append, List.flatMap_cons, List.flatMap_nil, List.append_nil]; omega)
  · rintro D xs L' hS ⟨hle, v, lo, hO, rfl⟩
    have hWd : Wd Fence.wide := .inl rfl
    obtain ⟨s, k, rfl, hO, _⟩ := hO.opn
    refine xqd_block (xci_tail (xci_seq (xci_region ?_)))
    refine xi_rd hWd (fun _ h => by cases h) (rd_load1 rfl (Cl.o1 rfl)) rfl ?_
    refine xi_rd hWd (fun _ h => by cases h) (rd_assign rfl) rfl ?_
    refine xi_nil (xci_tail (xci_ret (xqm_ret (.inl rfl) (xq_sub (List.sublist_cons_self _ _) (xq_ret1 (.inl rfl) Try.results33 rfl ⟨s, k, lo, xs.map (fun w => w.1), ?_, ?_, ?_, ?_, ?_, ?_, ?_⟩)))))
    · rw [List.length_map]
    · rw [List.length_map, flat_sub]; exact hO
    · intro w hw; obtain ⟨x, _, rfl⟩ := List.mem_map.1 hw; exact x.2.1
    · rw [List.map_map]; exact hS
    · intro w hw; obtain ⟨x, _, rfl⟩ := List.mem_map.1 hw; exact x.2.2
    · rw [List.length_map]; exact hle
    · rw [flat_sub]
theorem xf_collect {W : World} {L : List Blk} (r : Nat) (p q : Option Addr) (n c m d : Nat) (ct cm : List Int) (hn : ct.length = n) (hm : cm.length = m) (hbx : (r, Obj.cells #[.slice p n c, .slice q m d] 25 (0, 0)) ∈ L) (hr : Rs W L p (ints .u64 ct)) (hb : n ≤ 1000) (hb2 : m ≤ 1000) :
    XF Try.prog W 28 #[.func (.func 30) #[] #[.pointer (some ⟨r, 0, none⟩)]] L (fun v L' => ∃ s k lo ws, v = .slice s (ws : List Pw).length k ∧ SlO 2 36 (.slice s ws.length k) ws.length (ws.flatMap Pw.enc) lo ∧ (∀ w, w ∈ ws → w.Is) ∧ ws.map Pw.pl = pls ct cm ∧ (∀ w, w ∈ ws → w.on.length = m) ∧ ws.length ≤ 1000 ∧ L' = lo ++ (ws.flatMap Pw.l ++ L)) := by
  refine xf_enter (args := [_]) Try.func28 rfl Try.ntmps28 rfl ?_
  focus
    refine xc_seq ?_
    refine xc_region ?_
    refine xo_rd (rd_assign rfl) rfl ?_
    refine xo_nil ?_
    refine xq_seq ?_
    refine xc_seq ?_
    refine xc_region ?_
    refine xo_rd (rd_move rfl) rfl ?_
    refine xo_ef rfl (ef_call rfl (XF.mono (xf_seq r p q n c m d ct cm hn hm hbx hr hb hb2) ?_))
    rintro v L' ⟨s, k, lo, ws, rfl, h1, h2, h3, h4, h5, rfl⟩
    refine xo_rd (rd_assign rfl) rfl ?_
    refine xo_nil ?_
    refine xq_seq ?_
    refine xc_ret ?_
  exact xq_ret1 (.inl rfl) Try.results28 rfl ⟨s, k, lo, ws, rfl, h1, h2, h3, h4, h5, rfl⟩
theorem xf_plans {W : World} {L : List Blk} (p q : Option Addr) (n c m d : Nat) (ct cm : List Int) (hn : ct.length = n) (hm : cm.length = m) (hr : Rs W L p (ints .u64 ct)) (hb : n ≤ 1000) (hb2 : m ≤ 1000) :
    XF Try.prog W 17 #[.agg #[.slice p n c, .slice q m d]] L (fun v L' => ∃ s k lo ws, v = .slice s (ws : List Pw).length k ∧ SlO 2 36 (.slice s ws.length k) ws.length (ws.flatMap Pw.enc) lo ∧ (∀ w, w ∈ ws → w.Is) ∧ ws.map Pw.pl = pls ct cm ∧ (∀ w, w ∈ ws → w.on.length = m) ∧ ws.length ≤ 1000 ∧ L' = lo ++ (ws.flatMap Pw.l ++ L)) := by
  refine xf_enter (args := [_]) Try.func17 rfl Try.ntmps17 rfl ?_
  focus
    refine xc_seq ?_
    refine xc_region ?_
    refine xo_ef rfl (ef_box rfl fun r1 => ?_)
    refine xo_rd (rd_assign rfl) rfl ?_
    refine xo_nil ?_
    refine xq_seq ?_
    refine xc_seq ?_
    refine xc_region ?_
    refine xo_rd (rd_loadB rfl Kn.o0 (by rfl)) rfl ?_
    refine xo_ef rfl (ef_call rfl (XF.mono (xf_all p q n c m d) ?_))
    rintro v L' ⟨r, rfl, rfl⟩
    refine xo_ef rfl (ef_call rfl (XF.mono (xf_collect r p q n c m d ct cm hn hm (List.mem_cons_self ..) hr.skip.skip hb hb2) ?_))
    rintro v L' ⟨s, k, lo, ws, rfl, h1, h2, h3, h4, h5, rfl⟩
    refine xo_rd (rd_assign rfl) rfl ?_
    refine xo_nil ?_
    refine xq_seq ?_
    refine xc_ret ?_
  exact xq_sub (L' := lo ++ (ws.flatMap Pw.l ++ L)) (List.Sublist.append_left (List.Sublist.append_left ((List.sublist_cons_self _ _).trans (List.sublist_cons_self _ _)) _) _) (xq_ret1 (.inl rfl) Try.results17 rfl ⟨s, k, lo, ws, rfl, h1, h2, h3, h4, h5, rfl⟩)
end Go.Proofs.Ytnghandgghfloaa.X
