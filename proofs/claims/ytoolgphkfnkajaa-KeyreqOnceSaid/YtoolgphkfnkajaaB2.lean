/-
  Chapter 23: the chapter's examples; a requester that is not there: walks of my own.
-/
import Derived.Test.YtoolgphkfnkajaaB1
namespace Go.Proofs.Ytoolgphkfnkajaa.X
open Go Go.RowKit
set_option linter.unusedVariables false
set_option linter.unusedSimpArgs false
theorem xf_AskK {W : World} {L : List Blk} (w : Int) (r mb : Nat) (mo : Obj) (l l2 : List Sr) (hx : RqOk w mo l) (id now : Int) (h : askL w l id now = l2) (hid : 0 ≤ id ∧ id ≤ 4294967295) (hn : 0 ≤ now ∧ now ≤ 18446744073709551615) (hs : (getS l id).sent < big) (h12 : l2.length ≤ 12) (b : Bool) (hb : mayB w (getS l id) now = b) :
    XF Try.prog W 10 #[.pointer (some ⟨r, 0, none⟩), .int .u32 id, .int .u64 now] (rqB w r mb mo L) (fun v L' => v = .bool b ∧ ∃ mo', RqOk w mo' l2 ∧ L' = rqB w r mb mo' L) := by
  subst h; exact xf_Ask w r mb mo l hx id now hid hn hs h12 b hb
theorem xf_TickK {W : World} {L : List Blk} (w : Int) (r mb : Nat) (mo : Obj) (l l2 : List Sr) (hx : RqOk w mo l) (now : Int) (ds : List Int) (h : tickL w l now = l2) (hd : tickO w l now = ds) (hn : 0 ≤ now ∧ now ≤ 18446744073709551615) (hs : ∀ s, s ∈ l → s.sent < big) :
    XF Try.prog W 8 #[.pointer (some ⟨r, 0, none⟩), .int .u64 now] (rqB w r mb mo L) (fun v L' => ∃ p k lo mo', v = .slice p ds.length k ∧ SlQ 1 30 (.slice p ds.length k) ds.length (ints .u32 ds) lo ∧ RqOk w mo' l2 ∧ L' = lo ++ rqB w r mb mo' L) := by
  subst h hd; exact xf_Tick w r mb mo l hx now hn hs
theorem xf_sameX {W : World} {L : List Blk} (p q : Option Addr) (m m' c c' : Nat) (xs ys : List Int) (hx : xs.length = m) (hy : ys.length = m') (hr : Rs W L p (ints .u32 xs)) (hs : Rs W L q (ints .u32 ys)) (hm : m ≤ 1000000000) (h : xs = ys) : XF Try.prog W 17 #[.slice p m c, .slice q m' c'] L (fun v L' => v = .bool true ∧ L' = L) := by
  have := xf_same (W := W) (L := L) p q m m' c c' xs ys hx hy hr hs hm
  rwa [decide_eq_true h] at this
def w1 : List Sr := [⟨7, 5, 1, 0⟩]
def w2 : List Sr := [⟨7, 5, 1, 1⟩]
def w3 : List Sr := [⟨7, 15, 2, 0⟩]
def w4 : List Sr := [⟨7, 15, 2, 1⟩]
def w6 : List Sr := [⟨7, 30, 3, 0⟩]
theorem all_big {l : List Sr} (h : (l.all fun s => decide (s.sent < big)) = true) : ∀ s, s ∈ l → s.sent < big := fun s hs => of_decide_eq_true (List.all_eq_true.1 h s hs)
set_option maxHeartbeats 3200000 in
theorem xf_works {W : World} {L : List Blk} : XF Try.prog W 6 #[] L (fun v L' => v = .bool true ∧ L' = L) := by
  refine xf_enter (args := []) Try.func6 rfl Try.ntmps6 rfl ?_
  focus
    refine xc_seq ?_
    refine xc_region ?_
    refine xo_rd (rd_assign rfl) rfl ?_
    refine xo_nil ?_
    refine xq_seq ?_
    refine xc_seq ?_
    refine xc_region ?_
    refine xo_ef rfl (ef_call rfl (XF.mono (xf_New 10 (by decide)) ?_))
    rintro v L' ⟨r, mb, mo, rfl, h0, rfl⟩
    refine xo_rd (rd_move rfl) rfl ?_
    refine xo_rd (rd_extract rfl rfl) rfl ?_
    refine xo_rd (rd_extract rfl rfl) rfl ?_
    refine xo_rd (rd_assign rfl) rfl ?_
    refine xo_rd (rd_assign rfl) rfl ?_
    refine xo_nil ?_
    refine xq_seq ?_
  focus
    refine xc_seq ?_
    refine xc_seq ?_
    refine xc_region ?_
    refine xo_rd (rd_move rfl) rfl ?_
    refine xo_rd (rd_neq rfl rfl) rfl ?_
    refine xo_rd (rd_move rfl) rfl ?_
    refine xo_grd rfl rfl (rd_move rfl) rfl ?_
    refine xo_gef rfl rfl rfl (ef_call rfl (XF.mono (xf_AskK 10 r mb mo [] w1 h0 7 5 rfl (by decide) (by decide) (by decide) (by decide) true rfl) ?_))
    rintro v L' ⟨rfl, mo1, h1, rfl⟩
    refine xo_grd rfl rfl (rd_not rfl) rfl ?_
    refine xo_rd (rd_pickf rfl rfl) rfl ?_
    refine xo_rd (rd_move rfl) rfl ?_
    refine xo_grd rfl rfl (rd_move rfl) rfl ?_
    refine xo_gef rfl rfl rfl (ef_call rfl (XF.mono (xf_AskK 10 r mb mo1 w1 w2 h1 7 9 rfl (by decide) (by decide) (by decide) (by decide) false rfl) ?_))
    rintro v L' ⟨rfl, mo2, h2, rfl⟩
    refine xo_rd (rd_pickf rfl rfl) rfl ?_
    refine xo_rd (rd_move rfl) rfl ?_
    refine xo_grd rfl rfl (rd_move rfl) rfl ?_
    refine xo_gef rfl rfl rfl (ef_call rfl (XF.mono (xf_TickK 10 r mb mo2 w2 w2 h2 14 [] rfl rfl (by decide) (all_big rfl)) ?_))
    rintro v L' ⟨p1, k1, lo1, mo3, rfl, hO1, h3, rfl⟩
    refine xo_grd rfl rfl (rd_len rfl) rfl ?_
    refine xo_grd rfl rfl (rd_neq rfl rfl) rfl ?_
    refine xo_rd (rd_pickf rfl rfl) rfl ?_
    refine xo_rd (rd_move rfl) rfl ?_
    refine xo_grd rfl rfl (rd_move rfl) rfl ?_
    refine xo_gef rfl rfl rfl (ef_call rfl (XF.mono ((xf_TickK 10 r mb mo3 w2 w3 h3 15 [7] rfl rfl (by decide) (all_big rfl)).perm (rqB_front _ _ _ _ lo1 _)) ?_))
    rintro v L' ⟨p2, k2, lo2, mo4, rfl, hO2, h4, rfl⟩
    refine xo_gef rfl rfl rfl (ef_buildL (T := 34) (len := 1) (s := 1) (cells := (ints .u32 [7]).toArray) rfl (by decide) (by decide) (by kernel_rfl) fun r29 => ?_)
    refine xo_gef rfl rfl rfl (ef_call rfl (XF.mono (xf_sameX p2 (some ⟨r29, 0, none⟩) 1 1 k2 1 [7] [7] rfl rfl (hO2.rs (by intro z hz; simp [hz])) (Rs.fresh (vs := ints .u32 [7]) (T := 30) (fr := (0, 0)) List.mem_cons_self) (by decide) rfl) ?_))
    rintro v L' ⟨rfl, rfl⟩
    refine xo_grd rfl rfl (rd_not rfl) rfl ?_
    refine xo_rd (rd_pickf rfl rfl) rfl ?_
    refine xo_rd (rd_move rfl) rfl ?_
    refine xo_grd rfl rfl (rd_move rfl) rfl ?_
    refine xo_gef rfl rfl rfl (ef_call rfl (XF.mono ((xf_AskK 10 r mb mo4 w3 w4 h4 7 24 rfl (by decide) (by decide) (by decide) (by decide) false rfl).perm (rqB_front _ _ _ _ (_ :: lo2) _)) ?_))
    rintro v L' ⟨rfl, mo5, h5, rfl⟩
    refine xo_rd (rd_pickf rfl rfl) rfl ?_
    refine xo_nil ?_
    refine xq_seq ?_
    refine xc_condf rfl ?_
    refine xc_skip ?_
    refine xq_seq ?_
  obtain ⟨G, hG⟩ : ∃ G, (r29, Obj.cells (ints .u32 [7]).toArray 30 (0, 0)) :: lo2 ++ (lo1 ++ L) = G := ⟨_, rfl⟩
  rw [hG]
  have hLG : L.Sublist G := by rw [← hG]; exact (List.sublist_append_right lo1 L).trans (List.sublist_append_right _ _)
  clear hG
  focus
    refine xc_seq ?_
    refine xc_region ?_
    refine xo_rd (rd_move rfl) rfl ?_
    refine xo_ef rfl (ef_call rfl (XF.mono (xf_Due 10 r mb mo5 w4 h5) ?_))
    rintro v L' ⟨rfl, rfl⟩
    refine xo_rd (rd_move rfl) rfl ?_
    refine xo_rd (rd_extract rfl rfl) rfl ?_
    refine xo_rd (rd_extract rfl rfl) rfl ?_
    refine xo_rd (rd_assign rfl) rfl ?_
    refine xo_rd (rd_assign rfl) rfl ?_
    refine xo_nil ?_
    refine xq_seq ?_
  focus
    refine xc_seq ?_
    refine xc_region ?_
    refine xo_rd (rd_move rfl) rfl ?_
    refine xo_ef rfl (ef_buildL (T := 34) (len := 1) (s := 1) (cells := (ints .u32 [7]).toArray) rfl (by decide) (by decide) (by kernel_rfl) fun r43 => ?_)
    refine xo_ef rfl (ef_call rfl (XF.mono ((xf_Answered (L := (r43, Obj.cells (ints .u32 [7]).toArray 30 (0, 0)) :: G) 10 r mb mo5 w4 h5 (some ⟨r43, 0, none⟩) 1 1 [7] rfl (Rs.fresh (vs := ints .u32 [7]) (T := 30) (fr := (0, 0)) (List.mem_cons_of_mem _ (List.mem_cons_of_mem _ List.mem_cons_self))) (fun mo' => Rs.fresh (vs := ints .u32 [7]) (T := 30) (fr := (0, 0)) (List.mem_cons_of_mem _ (List.mem_cons_of_mem _ List.mem_cons_self))) (by decide)).perm (rqB_front _ _ _ _ [_] _)) ?_))
    rintro v L' ⟨rfl, mo6, h6, rfl⟩
    refine xo_nil ?_
    refine xq_seq ?_
  have h6' : RqOk 10 mo6 w3 := h6
  focus
    refine xc_seq ?_
    refine xc_region ?_
    refine xo_rd (rd_move rfl) rfl ?_
    refine xo_rd (rd_eql rfl rfl) rfl ?_
    refine xo_rd (rd_move rfl) rfl ?_
    refine xo_grd rfl rfl (rd_move rfl) rfl ?_
    refine xo_rd (rd_pickt rfl rfl) rfl ?_
    refine xo_rd (rd_move rfl) rfl ?_
    refine xo_grd rfl rfl (rd_move rfl) rfl ?_
    refine xo_gef rfl rfl rfl (ef_call rfl (XF.mono (xf_TickK 10 r mb mo6 w3 w3 h6' 30 [] rfl rfl (by decide) (all_big rfl)) ?_))
    rintro v L' ⟨p7, k7, lo7, mo7, rfl, hO7, h7, rfl⟩
    refine xo_grd rfl rfl (rd_len rfl) rfl ?_
    refine xo_grd rfl rfl (rd_eql rfl rfl) rfl ?_
    refine xo_rd (rd_pickt rfl rfl) rfl ?_
    refine xo_rd (rd_move rfl) rfl ?_
    refine xo_grd rfl rfl (rd_move rfl) rfl ?_
    refine xo_gef rfl rfl rfl (ef_call rfl (XF.mono ((xf_AskK 10 r mb mo7 w3 w6 h7 7 30 rfl (by decide) (by decide) (by decide) (by decide) true rfl).perm (rqB_front _ _ _ _ lo7 _)) ?_))
    rintro v L' ⟨rfl, mo8, h8, rfl⟩
    refine xo_rd (rd_pickt rfl rfl) rfl ?_
    refine xo_rd (rd_move rfl) rfl ?_
    refine xo_grd rfl rfl (rd_move rfl) rfl ?_
    refine xo_gef rfl rfl rfl (ef_call rfl (XF.mono (xf_Sent 10 r mb mo8 w6 h8 7) ?_))
    rintro v L' ⟨rfl, rfl⟩
    refine xo_grd rfl rfl (rd_eql rfl rfl) rfl ?_
    refine xo_rd (rd_pickt rfl rfl) rfl ?_
    refine xo_rd (rd_assign rfl) rfl ?_
    refine xo_nil ?_
    refine xq_seq ?_
    refine xc_ret ?_
  exact xq_sub (((hLG.trans (List.sublist_cons_self _ _)).trans (List.sublist_append_right lo7 _)).trans ((List.sublist_cons_self _ _).trans (List.sublist_cons_self _ _))) (xq_ret1 (.inl rfl) Try.results6 rfl ⟨rfl, rfl⟩)
/-! ### a requester that is not there -/
theorem xf_thoseN {W : World} {L : List Blk} (fv : Value) (h1 : fv.oneCell' = true) : XF Try.prog W 18 #[.pointer none, fv] L (fun v L' => v = .slice none 0 0 ∧ L' = L) := by
  refine xf_enter (args := [_, _]) Try.func18 rfl Try.ntmps18 rfl ?_
  focus
    refine xc_seq ?_
    refine xc_region ?_
    refine xo_ef rfl (ef_box rfl fun r2 => ?_)
    refine xo_ef rfl (ef_box rfl fun r3 => ?_)
    refine xo_rd (rd_assign rfl) rfl ?_
    refine xo_nil ?_
    refine xq_seq ?_
    refine xc_seq ?_
    refine xc_seq ?_
    refine xc_region ?_
    refine xo_rd (rd_load1 rfl (Cl.o1 rfl)) rfl ?_
    refine xo_rd (rd_eqnil rfl) rfl ?_
    refine xo_nil ?_
    refine xq_seq ?_
    refine xc_condt rfl ?_
    refine xc_seq ?_
    refine xc_region ?_
    refine xo_rd (rd_assign rfl) rfl ?_
    refine xo_nil ?_
    refine xq_seq ?_
    refine xc_ret ?_
    refine xq_then_ret ?_
  exact xq_sub (List.sublist_append_right [_, _] _) (xq_ret1 (.inl rfl) Try.results18 rfl ⟨rfl, rfl⟩)
theorem xf_WaitingN {W : World} {L : List Blk} : XF Try.prog W 15 #[.pointer none] L (fun v L' => v = .slice none 0 0 ∧ L' = L) := by
  refine xf_enter (args := [_]) Try.func15 rfl Try.ntmps15 rfl ?_
  focus
    refine xc_seq ?_
    refine xc_region ?_
    refine xo_rd (rd_assign rfl) rfl ?_
    refine xo_nil ?_
    refine xq_seq ?_
    refine xc_seq ?_
    refine xc_region ?_
    refine xo_rd (rd_move rfl) rfl ?_
    refine xo_ef rfl (ef_call rfl (XF.mono (xf_thoseN _ rfl) ?_))
    rintro v L' ⟨rfl, rfl⟩
    refine xo_rd (rd_assign rfl) rfl ?_
    refine xo_nil ?_
    refine xq_seq ?_
    refine xc_ret ?_
  exact xq_ret1 (.inl rfl) Try.results15 rfl ⟨rfl, rfl⟩
theorem xf_TickN {W : World} {L : List Blk} (now : Int) : XF Try.prog W 8 #[.pointer none, .int .u64 now] L (fun v L' => v = .slice none 0 0 ∧ L' = L) := by
  refine xf_enter (args := [_, _]) Try.func8 rfl Try.ntmps8 rfl ?_
  focus
    refine xc_seq ?_
    refine xc_region ?_
    refine xo_ef rfl (ef_box rfl fun r2 => ?_)
    refine xo_ef rfl (ef_box rfl fun r3 => ?_)
    refine xo_rd (rd_assign rfl) rfl ?_
    refine xo_nil ?_
    refine xq_seq ?_
    refine xc_seq ?_
    refine xc_region ?_
    refine xo_rd (rd_load1 rfl (Cl.o1 rfl)) rfl ?_
    refine xo_rd (rd_makeFunc rfl rfl) rfl ?_
    refine xo_ef rfl (ef_call rfl (XF.mono (xf_thoseN _ rfl) ?_))
    rintro v L' ⟨rfl, rfl⟩
    refine xo_rd (rd_assign rfl) rfl ?_
    refine xo_nil ?_
    refine xq_seq ?_
    refine xc_seq ?_
    refine xc_seq ?_
    refine xc_region ?_
    refine xo_rd (rd_move rfl) rfl ?_
    refine xo_rd (rd_len rfl) rfl ?_
    refine xo_rd (rd_move rfl) rfl ?_
    refine xo_nil ?_
    refine xq_seq ?_
    refine xc_block ?_
  refine xc_loopK (ι := Unit) (fun _ => True) (fun _ => 0) (fun _ => [(5, .slice none 0 0), (11, .slice none 0 0), (12, .int .i64 0), (13, .int .i64 0)]) () trivial (by repeat (first | exact keep_nil | refine keep_cons rfl ?_)) ?_
  rintro ⟨⟩ _
  focus
    refine xc_seq ?_
    refine xc_region ?_
    refine xo_rd (rd_lss rfl rfl) rfl ?_
    refine xo_nil ?_
    refine xq_seq ?_
    refine xc_seq ?_
    refine xc_condf rfl ?_
    refine xc_exit ?_
    refine xq_then_exit ?_
    refine xq_then_exit ?_
    refine xq_block_hit ?_
    refine xq_seq ?_
    refine xc_seq ?_
    refine xc_region ?_
    refine xo_rd (rd_move rfl) rfl ?_
    refine xo_rd (rd_assign rfl) rfl ?_
    refine xo_nil ?_
    refine xq_seq ?_
    refine xc_ret ?_
  exact xq_sub (List.sublist_append_right [_, _] _) (xq_ret1 (.inl rfl) Try.results8 rfl ⟨rfl, rfl⟩)
theorem xf_AnsweredN {W : World} {L : List Blk} (q : Option Addr) (m c : Nat) : XF Try.prog W 9 #[.pointer none, .slice q m c] L (fun v L' => v = .tuple #[] ∧ L' = L) := by
  refine xf_enter (args := [_, _]) Try.func9 rfl Try.ntmps9 rfl ?_
  focus
    refine xc_seq ?_
    refine xc_region ?_
    refine xo_rd (rd_move rfl) rfl ?_
    refine xo_ef rfl (ef_call rfl (XF.mono (xf_WaitingN) ?_))
    rintro v L' ⟨rfl, rfl⟩
    refine xo_rd (rd_len rfl) rfl ?_
    refine xo_rd (rd_move rfl) rfl ?_
    refine xo_nil ?_
    refine xq_seq ?_
    refine xc_block ?_
  refine xc_loopK (ι := Unit) (fun _ => True) (fun _ => 0) (fun _ => [(9, .int .i64 0), (10, .int .i64 0)]) () trivial (by repeat (first | exact keep_nil | refine keep_cons rfl ?_)) ?_
  rintro ⟨⟩ _
  focus
    refine xc_seq ?_
    refine xc_region ?_
    refine xo_rd (rd_lss rfl rfl) rfl ?_
    refine xo_nil ?_
    refine xq_seq ?_
    refine xc_seq ?_
    refine xc_condf rfl ?_
    refine xc_exit ?_
    refine xq_then_exit ?_
    refine xq_then_exit ?_
    refine xq_block_hit ?_
  exact xq_ret0 (.inr rfl) Try.results9 ⟨rfl, rfl⟩
theorem xf_DropN {W : World} {L : List Blk} (q : Option Addr) (m c : Nat) : XF Try.prog W 12 #[.pointer none, .slice q m c] L (fun v L' => v = .tuple #[] ∧ L' = L) := by
  refine xf_enter (args := [_, _]) Try.func12 rfl Try.ntmps12 rfl ?_
  focus
    refine xc_seq ?_
    refine xc_seq ?_
    refine xc_region ?_
    refine xo_rd (rd_move rfl) rfl ?_
    refine xo_rd (rd_eqnil rfl) rfl ?_
    refine xo_nil ?_
    refine xq_seq ?_
    refine xc_condt rfl ?_
    refine xc_ret ?_
    refine xq_then_ret ?_
  exact xq_ret0 (.inl rfl) Try.results12 ⟨rfl, rfl⟩
theorem xf_LastN {W : World} {L : List Blk} (id : Int) : XF Try.prog W 13 #[.pointer none, .int .u32 id] L (fun v L' => v = .tuple #[.int .u64 0, .bool false] ∧ L' = L) := by
  refine xf_enter (args := [_, _]) Try.func13 rfl Try.ntmps13 rfl ?_
  focus
    refine xc_seq ?_
    refine xc_region ?_
    refine xo_rd (rd_assign rfl) rfl ?_
    refine xo_rd (rd_assign rfl) rfl ?_
    refine xo_nil ?_
    refine xq_seq ?_
    refine xc_seq ?_
    refine xc_seq ?_
    refine xc_region ?_
    refine xo_rd (rd_move rfl) rfl ?_
    refine xo_rd (rd_eqnil rfl) rfl ?_
    refine xo_nil ?_
    refine xq_seq ?_
    refine xc_condt rfl ?_
    refine xc_seq ?_
    refine xc_region ?_
    refine xo_rd (rd_assign rfl) rfl ?_
    refine xo_rd (rd_assign rfl) rfl ?_
    refine xo_nil ?_
    refine xq_seq ?_
    refine xc_ret ?_
    refine xq_then_ret ?_
  exact xq_ret2 (.inl rfl) Try.results13 rfl rfl ⟨rfl, rfl⟩
theorem xf_DueN {W : World} {L : List Blk} : XF Try.prog W 14 #[.pointer none] L (fun v L' => v = .tuple #[.int .u64 0, .bool false] ∧ L' = L) := by
  refine xf_enter (args := [_]) Try.func14 rfl Try.ntmps14 rfl ?_
  focus
    refine xc_seq ?_
    refine xc_region ?_
    refine xo_rd (rd_assign rfl) rfl ?_
    refine xo_rd (rd_assign rfl) rfl ?_
    refine xo_nil ?_
    refine xq_seq ?_
    refine xc_seq ?_
    refine xc_region ?_
    refine xo_rd (rd_move rfl) rfl ?_
    refine xo_ef rfl (ef_call rfl (XF.mono (xf_WaitingN) ?_))
    rintro v L' ⟨rfl, rfl⟩
    refine xo_rd (rd_assign rfl) rfl ?_
    refine xo_nil ?_
    refine xq_seq ?_
    refine xc_seq ?_
    refine xc_seq ?_
    refine xc_region ?_
    refine xo_rd (rd_move rfl) rfl ?_
    refine xo_rd (rd_len rfl) rfl ?_
    refine xo_rd (rd_eql rfl rfl) rfl ?_
    refine xo_nil ?_
    refine xq_seq ?_
    refine xc_condt rfl ?_
    refine xc_seq ?_
    refine xc_region ?_
    refine xo_rd (rd_assign rfl) rfl ?_
    refine xo_rd (rd_assign rfl) rfl ?_
    refine xo_nil ?_
    refine xq_seq ?_
    refine xc_ret ?_
    refine xq_then_ret ?_
  exact xq_ret2 (.inl rfl) Try.results14 rfl rfl ⟨rfl, rfl⟩
theorem xf_AskN {W : World} {L : List Blk} (id now : Int) : XF Try.prog W 10 #[.pointer none, .int .u32 id, .int .u64 now] L (fun v L' => v = .bool false ∧ L' = L) := by
  refine xf_enter (args := [_, _, _]) Try.func10 rfl Try.ntmps10 rfl ?_
  focus
    refine xc_seq ?_
    refine xc_region ?_
    refine xo_rd (rd_assign rfl) rfl ?_
    refine xo_nil ?_
    refine xq_seq ?_
    refine xc_seq ?_
    refine xc_seq ?_
    refine xc_region ?_
    refine xo_rd (rd_move rfl) rfl ?_
    refine xo_rd (rd_eqnil rfl) rfl ?_
    refine xo_nil ?_
    refine xq_seq ?_
    refine xc_condt rfl ?_
    refine xc_seq ?_
    refine xc_region ?_
    refine xo_rd (rd_assign rfl) rfl ?_
    refine xo_nil ?_
    refine xq_seq ?_
    refine xc_ret ?_
    refine xq_then_ret ?_
  exact xq_ret1 (.inl rfl) Try.results10 rfl ⟨rfl, rfl⟩
theorem xf_SentN {W : World} {L : List Blk} (id : Int) : XF Try.prog W 11 #[.pointer none, .int .u32 id] L (fun v L' => v = .int .u64 0 ∧ L' = L) := by
  refine xf_enter (args := [_, _]) Try.func11 rfl Try.ntmps11 rfl ?_
  focus
    refine xc_seq ?_
    refine xc_region ?_
    refine xo_rd (rd_assign rfl) rfl ?_
    refine xo_nil ?_
    refine xq_seq ?_
    refine xc_seq ?_
    refine xc_seq ?_
    refine xc_region ?_
    refine xo_rd (rd_move rfl) rfl ?_
    refine xo_rd (rd_eqnil rfl) rfl ?_
    refine xo_nil ?_
    refine xq_seq ?_
    refine xc_condt rfl ?_
    refine xc_seq ?_
    refine xc_region ?_
    refine xo_rd (rd_assign rfl) rfl ?_
    refine xo_nil ?_
    refine xq_seq ?_
    refine xc_ret ?_
    refine xq_then_ret ?_
  exact xq_ret1 (.inl rfl) Try.results11 rfl ⟨rfl, rfl⟩
set_option maxHeartbeats 1600000 in
theorem xf_None {W : World} (id now : Int) : XF Try.prog W 4 #[.int .u32 id, .int .u64 now] [] (fun v L' => v = .bool true) := by
  refine xf_enter (args := [_, _]) Try.func4 rfl Try.ntmps4 rfl ?_
  focus
    refine xc_seq ?_
    refine xc_region ?_
    refine xo_rd (rd_assign rfl) rfl ?_
    refine xo_nil ?_
    refine xq_seq ?_
    refine xc_seq ?_
    refine xc_region ?_
    refine xo_rd (rd_assign rfl) rfl ?_
    refine xo_nil ?_
    refine xq_seq ?_
    refine xc_seq ?_
    refine xc_region ?_
    refine xo_rd (rd_move rfl) rfl ?_
    refine xo_rd (rd_move rfl) rfl ?_
    refine xo_ef rfl (ef_buildL (T := 34) (len := 1) (s := 1) (cells := (ints .u32 [id]).toArray) rfl (by decide) (by decide) (by kernel_rfl) fun r12 => ?_)
    refine xo_ef rfl (ef_call rfl (XF.mono (xf_AnsweredN _ _ _) ?_))
    rintro v L' ⟨rfl, rfl⟩
    refine xo_nil ?_
    refine xq_seq ?_
    refine xc_seq ?_
    refine xc_region ?_
    refine xo_rd (rd_move rfl) rfl ?_
    refine xo_rd (rd_move rfl) rfl ?_
    refine xo_ef rfl (ef_buildL (T := 34) (len := 1) (s := 1) (cells := (ints .u32 [id]).toArray) rfl (by decide) (by decide) (by kernel_rfl) fun r12 => ?_)
    refine xo_ef rfl (ef_call rfl (XF.mono (xf_DropN _ _ _) ?_))
    rintro v L' ⟨rfl, rfl⟩
    refine xo_nil ?_
    refine xq_seq ?_
    refine xc_seq ?_
    refine xc_region ?_
    refine xo_rd (rd_move rfl) rfl ?_
    refine xo_rd (rd_move rfl) rfl ?_
    refine xo_ef rfl (ef_call rfl (XF.mono (xf_LastN id) ?_))
    rintro v L' ⟨rfl, rfl⟩
    refine xo_rd (rd_move rfl) rfl ?_
    refine xo_rd (rd_extract rfl rfl) rfl ?_
    refine xo_rd (rd_extract rfl rfl) rfl ?_
    refine xo_rd (rd_assign rfl) rfl ?_
    refine xo_rd (rd_assign rfl) rfl ?_
    refine xo_nil ?_
    refine xq_seq ?_
    refine xc_seq ?_
    refine xc_region ?_
    refine xo_rd (rd_move rfl) rfl ?_
    refine xo_ef rfl (ef_call rfl (XF.mono (xf_DueN) ?_))
    rintro v L' ⟨rfl, rfl⟩
    refine xo_rd (rd_move rfl) rfl ?_
    refine xo_rd (rd_extract rfl rfl) rfl ?_
    refine xo_rd (rd_extract rfl rfl) rfl ?_
    refine xo_rd (rd_assign rfl) rfl ?_
    refine xo_rd (rd_assign rfl) rfl ?_
    refine xo_nil ?_
    refine xq_seq ?_
    refine xc_seq ?_
    refine xc_region ?_
    refine xo_rd (rd_move rfl) rfl ?_
    refine xo_rd (rd_move rfl) rfl ?_
    refine xo_rd (rd_move rfl) rfl ?_
    refine xo_ef rfl (ef_call rfl (XF.mono (xf_AskN id now) ?_))
    rintro v L' ⟨rfl, rfl⟩
    refine xo_rd (rd_not rfl) rfl ?_
    refine xo_rd (rd_move rfl) rfl ?_
    refine xo_grd rfl rfl (rd_move rfl) rfl ?_
    refine xo_grd rfl rfl (rd_move rfl) rfl ?_
    refine xo_gef rfl rfl rfl (ef_call rfl (XF.mono (xf_TickN now) ?_))
    rintro v L' ⟨rfl, rfl⟩
    refine xo_grd rfl rfl (rd_len rfl) rfl ?_
    refine xo_grd rfl rfl (rd_eql rfl rfl) rfl ?_
    refine xo_rd (rd_pickt rfl rfl) rfl ?_
    refine xo_rd (rd_move rfl) rfl ?_
    refine xo_grd rfl rfl (rd_move rfl) rfl ?_
    refine xo_gef rfl rfl rfl (ef_call rfl (XF.mono (xf_WaitingN) ?_))
    rintro v L' ⟨rfl, rfl⟩
    refine xo_grd rfl rfl (rd_len rfl) rfl ?_
    refine xo_grd rfl rfl (rd_eql rfl rfl) rfl ?_
    refine xo_rd (rd_pickt rfl rfl) rfl ?_
    refine xo_rd (rd_move rfl) rfl ?_
    refine xo_grd rfl rfl (rd_move rfl) rfl ?_
    refine xo_grd rfl rfl (rd_eql rfl rfl) rfl ?_
    refine xo_rd (rd_pickt rfl rfl) rfl ?_
    refine xo_rd (rd_move rfl) rfl ?_
    refine xo_grd rfl rfl (rd_move rfl) rfl ?_
    refine xo_grd rfl rfl (rd_not rfl) rfl ?_
    refine xo_rd (rd_pickt rfl rfl) rfl ?_
    refine xo_rd (rd_move rfl) rfl ?_
    refine xo_grd rfl rfl (rd_move rfl) rfl ?_
    refine xo_grd rfl rfl (rd_move rfl) rfl ?_
    refine xo_gef rfl rfl rfl (ef_call rfl (XF.mono (xf_SentN id) ?_))
    rintro v L' ⟨rfl, rfl⟩
    refine xo_grd rfl rfl (rd_eql rfl rfl) rfl ?_
    refine xo_rd (rd_pickt rfl rfl) rfl ?_
    refine xo_rd (rd_move rfl) rfl ?_
    refine xo_grd rfl rfl (rd_move rfl) rfl ?_
    refine xo_grd rfl rfl (rd_eql rfl rfl) rfl ?_
    refine xo_rd (rd_pickt rfl rfl) rfl ?_
    refine xo_rd (rd_move rfl) rfl ?_
    refine xo_grd rfl rfl (rd_move rfl) rfl ?_
    refine xo_grd rfl rfl (rd_not rfl) rfl ?_
    refine xo_rd (rd_pickt rfl rfl) rfl ?_
    refine xo_rd (rd_move rfl) rfl ?_
    refine xo_gef rfl rfl rfl (ef_call rfl (XF.mono (xf_works) ?_))
    rintro v L' ⟨rfl, rfl⟩
    refine xo_rd (rd_pickt rfl rfl) rfl ?_
    refine xo_rd (rd_assign rfl) rfl ?_
    refine xo_nil ?_
    refine xq_seq ?_
    refine xc_ret ?_
  exact xq_ret1 (.inl rfl) Try.results4 rfl rfl
end Go.Proofs.Ytoolgphkfnkajaa.X
