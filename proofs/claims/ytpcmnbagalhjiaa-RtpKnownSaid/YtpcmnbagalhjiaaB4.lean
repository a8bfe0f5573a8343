/-
  The chapter's examples: a walk of my own.
-/
import Derived.Test.YtpcmnbagalhjiaaB3
namespace Go.Proofs.Ytpcmnbagalhjiaa.X
open Go Go.RowKit
set_option linter.unusedVariables false
set_option linter.unusedSimpArgs false
theorem perm_end4 (a b c d : List Blk) : (a ++ (b ++ (c ++ d))).Perm (d ++ (a ++ (b ++ c))) := (by classical exact List.perm_iff_count.2 fun a => by simp only [List.append_eq, List.count_append, List.count_cons, List.count_nil, List.cons_append, List.nil_append, List.flatMap_append, List.flatMap_cons, List.flatMap_nil, List.append_nil]; omega)
theorem xf_parse2 {W : World} {L : List Blk} (p : Option Addr) (m c : Nat) (bs : List Int) (e : Int) (q : Pk) (he : parseL bs = (e, q)) (hx : bs.length = m) (hr : Rs W L p (ints .u8 bs)) (hb : ∀ x, x ∈ bs → By x) (hc : m ≤ c) (hm : m ≤ 1000000000) :
    XF Try.prog W 10 #[.slice p m c] L (fun v L' => ∃ s1 k1 s2 k2 s3 k3 l1 l2 l3, v = .tuple #[.agg (q.enc (.slice s1 q.cs.length k1) (.slice s2 q.ex.length k2) (.slice s3 q.pl.length k3)).toArray, .int .i64 e] ∧ SlO 1 26 (.slice s1 q.cs.length k1) q.cs.length (ints .u32 q.cs) l1 ∧ SlO 1 5 (.slice s2 q.ex.length k2) q.ex.length (ints .u8 q.ex) l2 ∧ SlO 1 5 (.slice s3 q.pl.length k3) q.pl.length (ints .u8 q.pl) l3 ∧ L' = l1 ++ (l2 ++ (l3 ++ L))) := by
  refine (xf_parse p m c bs hx hr hb hc hm).mono ?_
  rw [he]
  rintro v L' ⟨v1, v2, v3, l1, l2, l3, rfl, ⟨h1, h2, h3⟩, rfl⟩
  obtain ⟨s1, k1, rfl, h1, _⟩ := h1.opn
  obtain ⟨s2, k2, rfl, h2, _⟩ := h2.opn
  obtain ⟨s3, k3, rfl, h3, _⟩ := h3.opn
  exact ⟨s1, k1, s2, k2, s3, k3, l1, l2, l3, rfl, h1, h2, h3, rfl⟩
theorem xf_rparse2 {W : World} {L : List Blk} (p : Option Addr) (m c : Nat) (bs : List Int) (e : Int) (q : Pk) (he : parseL bs = (e, q)) (hx : bs.length = m) (hr : Rs W L p (ints .u8 bs)) (hb : ∀ x, x ∈ bs → By x) (hc : m ≤ c) (hm : m ≤ 1000000000) :
    XF Try.prog W 9 #[.slice p m c] L (fun v L' => ∃ s1 k1 s2 k2 s3 k3 l1 l2 l3, v = .tuple #[.agg (q.enc (.slice s1 q.cs.length k1) (.slice s2 q.ex.length k2) (.slice s3 q.pl.length k3)).toArray, .int .i64 e] ∧ SlO 1 26 (.slice s1 q.cs.length k1) q.cs.length (ints .u32 q.cs) l1 ∧ SlO 1 5 (.slice s2 q.ex.length k2) q.ex.length (ints .u8 q.ex) l2 ∧ SlO 1 5 (.slice s3 q.pl.length k3) q.pl.length (ints .u8 q.pl) l3 ∧ L' = l1 ++ (l2 ++ (l3 ++ L))) := by
  refine (xf_rparse p m c bs hx hr hb hc hm).mono ?_
  rw [he]
  rintro v L' ⟨v1, v2, v3, l1, l2, l3, rfl, ⟨h1, h2, h3⟩, rfl⟩
  obtain ⟨s1, k1, rfl, h1, _⟩ := h1.opn
  obtain ⟨s2, k2, rfl, h2, _⟩ := h2.opn
  obtain ⟨s3, k3, rfl, h3, _⟩ := h3.opn
  exact ⟨s1, k1, s2, k2, s3, k3, l1, l2, l3, rfl, h1, h2, h3, rfl⟩
theorem xf_packet2 {W : World} {L : List Blk} (q : Pk) (p1 p2 p3 : Option Addr) (c1 c2 c3 : Nat) (h1 : Rs W L p1 (ints .u32 q.cs)) (h2 : Rs W L p2 (ints .u8 q.ex)) (h3 : Rs W L p3 (ints .u8 q.pl)) (b1 : q.cs.length ≤ 1000000) (b2 : q.ex.length ≤ 1000000) (b3 : q.pl.length ≤ 1000000) :
    XF Try.prog W 12 #[.agg (q.enc (.slice p1 q.cs.length c1) (.slice p2 q.ex.length c2) (.slice p3 q.pl.length c3)).toArray] L (fun v L' => ∃ s1 k1 s2 k2 s3 k3 l1 l2 l3, v = .agg (q.enc (.slice s1 q.cs.length k1) (.slice s2 q.ex.length k2) (.slice s3 q.pl.length k3)).toArray ∧ SlO 1 26 (.slice s1 q.cs.length k1) q.cs.length (ints .u32 q.cs) l1 ∧ SlO 1 5 (.slice s2 q.ex.length k2) q.ex.length (ints .u8 q.ex) l2 ∧ SlO 1 5 (.slice s3 q.pl.length k3) q.pl.length (ints .u8 q.pl) l3 ∧ L' = l1 ++ (l2 ++ (l3 ++ L))) := by
  refine (xf_packet q p1 p2 p3 c1 c2 c3 h1 h2 h3 b1 b2 b3).mono ?_
  rintro v L' ⟨v1, v2, v3, l1, l2, l3, rfl, ⟨h1, h2, h3⟩, rfl⟩
  obtain ⟨s1, k1, rfl, h1, _⟩ := h1.opn
  obtain ⟨s2, k2, rfl, h2, _⟩ := h2.opn
  obtain ⟨s3, k3, rfl, h3, _⟩ := h3.opn
  exact ⟨s1, k1, s2, k2, s3, k3, l1, l2, l3, rfl, h1, h2, h3, rfl⟩
theorem xf_put2 {W : World} {L : List Blk} (q : Pk) (out : List Int) (e : Int) (he : putR q = (out, e)) (p1 p2 p3 : Option Addr) (c1 c2 c3 : Nat) (h1 : Rs W L p1 (ints .u32 q.cs)) (h2 : Rs W L p2 (ints .u8 q.ex)) (h3 : Rs W L p3 (ints .u8 q.pl)) (hg : q.Rg) (b1 : q.cs.length ≤ 1000000) (b2 : q.ex.length ≤ 1000000) (b3 : q.pl.length ≤ 1000000) :
    XF Try.prog W 19 #[.agg (q.enc (.slice p1 q.cs.length c1) (.slice p2 q.ex.length c2) (.slice p3 q.pl.length c3)).toArray] L (fun v L' => ∃ s k l, v = .tuple #[.slice s out.length k, .int .i64 e] ∧ SlO 1 5 (.slice s out.length k) out.length (ints .u8 out) l ∧ L' = l ++ L) := by
  have := xf_put q p1 p2 p3 c1 c2 c3 h1 h2 h3 hg b1 b2 b3
  rwa [he] at this
theorem xf_rput2 {W : World} {L : List Blk} (q : Pk) (out : List Int) (e : Int) (he : putR q = (out, e)) (p1 p2 p3 : Option Addr) (c1 c2 c3 : Nat) (h1 : Rs W L p1 (ints .u32 q.cs)) (h2 : Rs W L p2 (ints .u8 q.ex)) (h3 : Rs W L p3 (ints .u8 q.pl)) (hg : q.Rg) (b1 : q.cs.length ≤ 1000000) (b2 : q.ex.length ≤ 1000000) (b3 : q.pl.length ≤ 1000000) :
    XF Try.prog W 18 #[.agg (q.enc (.slice p1 q.cs.length c1) (.slice p2 q.ex.length c2) (.slice p3 q.pl.length c3)).toArray] L (fun v L' => ∃ s k l, v = .tuple #[.slice s out.length k, .int .i64 e] ∧ SlO 1 5 (.slice s out.length k) out.length (ints .u8 out) l ∧ L' = l ++ L) := by
  have := xf_rput q p1 p2 p3 c1 c2 c3 h1 h2 h3 hg b1 b2 b3
  rwa [he] at this
theorem Rs.rep {W : World} {L : List Blk} {r k : Nat} {T : TypeId} {fr : Nat × Nat} (h : (r, Obj.cells (List.replicate k (Value.int .u8 0)).toArray T fr) ∈ L) : Rs W L (some ⟨r, 0, none⟩) (ints .u8 (List.replicate k 0)) := by
  rw [show ints .u8 (List.replicate k 0) = List.replicate k (.int .u8 0) from by simp [ints]]
  exact Rs.fresh h
theorem rep_by (k : Nat) : ∀ x, x ∈ List.replicate k (0 : Int) → By x := fun x h => by rw [List.eq_of_mem_replicate h]; unfold By; omega
theorem xf_isRtcpB {W : World} {L : List Blk} (p : Option Addr) (m c : Nat) (bs : List Int) (b : Bool) (hb : decide (2 ≤ m ∧ 192 ≤ bs.getD 1 0 ∧ bs.getD 1 0 ≤ 223) = b) (hx : bs.length = m) (hr : Rs W L p (ints .u8 bs)) (hm : m ≤ 1000000000) : XF Try.prog W 13 #[.slice p m c] L (fun v L' => v = .bool b ∧ L' = L) :=
  (xf_isRtcp p m c bs hx hr hm).mono fun v L' h => ⟨by rw [h.1, hb], h.2⟩
def exA : Pk := ⟨true, 96, 258, 1, 2, [], false, 0, [], [9], 0⟩
def exB : Pk := ⟨false, 96, 258, 1, 2, [3], false, 0, [], [9], 2⟩
theorem exA_rg : exA.Rg := by constructor <;> simp [exA, By, U2, U4]
theorem exB_rg : exB.Rg := by constructor <;> simp [exB, By, U2, U4]
set_option maxHeartbeats 4000000 in
theorem xf_works {W : World} : XF Try.prog W 7 #[] [] (fun v L' => v = .bool true) := by
  refine xf_enter (args := []) Try.func7 rfl Try.ntmps7 rfl ?_
  focus
    refine xc_seq ?_
    refine xc_region ?_
    refine xo_rd (rd_assign rfl) rfl ?_
    refine xo_nil ?_
    refine xq_seq ?_
    refine xc_seq ?_
    refine xc_region ?_
    refine xo_ef rfl (ef_slice1 rfl rfl rfl fun r12 => ?_)
    refine xo_rd (rd_build rfl rfl rfl) rfl ?_
    refine xo_ef rfl (ef_call rfl (XF.mono (xf_put2 exA [128, 224, 1, 2, 0, 0, 0, 1, 0, 0, 0, 2, 9] 0 (by decide) none none (some ⟨r12, 0, none⟩) 0 0 1 Rs.nil Rs.nil (Rs.fresh (List.Mem.head _)) exA_rg (by decide) (by decide) (by decide)) ?_))
    rintro v L' ⟨sa, ka, la, rfl, hOa, rfl⟩
    refine xo_perm List.perm_append_comm ?_
    refine xo_rd (rd_move rfl) rfl ?_
    refine xo_rd (rd_extract rfl rfl) rfl ?_
    refine xo_rd (rd_extract rfl rfl) rfl ?_
    refine xo_rd (rd_assign rfl) rfl ?_
    refine xo_rd (rd_assign rfl) rfl ?_
    refine xo_nil ?_
    refine xq_seq ?_
  focus
    refine xc_seq ?_
    refine xc_region ?_
    refine xo_ef rfl (ef_slice1 rfl rfl rfl fun r18 => ?_)
    refine xo_ef rfl (ef_slice1 rfl rfl rfl fun r19 => ?_)
    refine xo_rd (rd_build rfl rfl rfl) rfl ?_
    refine xo_ef rfl (ef_call rfl (XF.mono (xf_put2 exB [161, 96, 1, 2, 0, 0, 0, 1, 0, 0, 0, 2, 0, 0, 0, 3, 9, 0, 2] 0 (by decide) (some ⟨r18, 0, none⟩) none (some ⟨r19, 0, none⟩) 1 0 1 (Rs.fresh (T := 26) (fr := (0, 0)) (vs := ints .u32 [3]) (by simp [ints])) Rs.nil (Rs.fresh (T := 5) (fr := (0, 0)) (vs := ints .u8 [9]) (by simp [ints])) exB_rg (by decide) (by decide) (by decide)) ?_))
    rintro v L' ⟨sb, kb, lb, rfl, hOb, rfl⟩
    refine xo_perm List.perm_append_comm ?_
    refine xo_rd (rd_move rfl) rfl ?_
    refine xo_rd (rd_extract rfl rfl) rfl ?_
    refine xo_rd (rd_extract rfl rfl) rfl ?_
    refine xo_rd (rd_assign rfl) rfl ?_
    refine xo_rd (rd_assign rfl) rfl ?_
    refine xo_nil ?_
    refine xq_seq ?_
  focus
    refine xc_seq ?_
    refine xc_region ?_
    refine xo_ef rfl (ef_makeSlice rfl rfl rfl (by omega) (by omega) (by omega) (by decide) fun r25 => ?_)
    refine xo_ef rfl (ef_call rfl (XF.mono (xf_parse2 (some ⟨r25, 0, none⟩) 11 11 (List.replicate 11 0) 10 .zero (by decide) rfl (Rs.rep (List.Mem.head _)) (rep_by _) (by omega) (by omega)) ?_))
    rintro v L' ⟨s1, k1, s2, k2, s3, k3, l1, l2, l3, rfl, _, _, _, rfl⟩
    refine xo_perm (perm_end4 l1 l2 l3 _) ?_
    refine xo_rd (rd_move rfl) rfl ?_
    refine xo_rd (rd_extract rfl rfl) rfl ?_
    refine xo_rd (rd_extract rfl rfl) rfl ?_
    refine xo_ef rfl (ef_alloc fun r5 => ?_)
    refine xo_ef rfl (ef_storeB [] _ rfl rfl (by first | rfl | assumption) rfl rfl rfl ?_)
    refine xo_rd (rd_assign rfl) rfl ?_
    refine xo_nil ?_
    refine xq_seq ?_
  focus
    refine xc_seq ?_
    refine xc_region ?_
    refine xo_ef rfl (ef_makeSlice rfl rfl rfl (by omega) (by omega) (by omega) (by decide) fun r30 => ?_)
    refine xo_ef rfl (ef_call rfl (XF.mono (xf_parse2 (some ⟨r30, 0, none⟩) 12 12 (List.replicate 12 0) 20 .zero (by decide) rfl (Rs.rep (List.Mem.head _)) (rep_by _) (by omega) (by omega)) ?_))
    rintro v L' ⟨s4, k4, s5, k5, s6, k6, l4, l5, l6, rfl, _, _, _, rfl⟩
    refine xo_perm (perm_end4 l4 l5 l6 _) ?_
    refine xo_rd (rd_move rfl) rfl ?_
    refine xo_rd (rd_extract rfl rfl) rfl ?_
    refine xo_rd (rd_extract rfl rfl) rfl ?_
    refine xo_ef rfl (ef_alloc fun r7 => ?_)
    refine xo_ef rfl (ef_storeB [] _ rfl rfl (by first | rfl | assumption) rfl rfl rfl ?_)
    refine xo_rd (rd_assign rfl) rfl ?_
    refine xo_nil ?_
    refine xq_seq ?_
  focus
    refine xc_seq ?_
    refine xc_region ?_
    refine xo_ef rfl (ef_buildL (T := 22) (len := 12) (s := 1) (cells := (ints .u8 [160, 0, 0, 0, 0, 0, 0, 0, 0, 0, 0, 0]).toArray) rfl (by decide) (by decide) (by kernel_rfl) fun r35 => ?_)
    refine xo_ef rfl (ef_call rfl (XF.mono (xf_parse2 (some ⟨r35, 0, none⟩) 12 12 [160, 0, 0, 0, 0, 0, 0, 0, 0, 0, 0, 0] 21 .zero (by decide) rfl (Rs.fresh (List.Mem.head _)) (by unfold By; decide) (by omega) (by omega)) ?_))
    rintro v L' ⟨s7, k7, s8, k8, s9, k9, l7, l8, l9, rfl, _, _, _, rfl⟩
    refine xo_perm (perm_end4 l7 l8 l9 _) ?_
    refine xo_rd (rd_move rfl) rfl ?_
    refine xo_rd (rd_extract rfl rfl) rfl ?_
    refine xo_rd (rd_extract rfl rfl) rfl ?_
    refine xo_ef rfl (ef_alloc fun r9 => ?_)
    refine xo_ef rfl (ef_storeB [] _ rfl rfl (by first | rfl | assumption) rfl rfl rfl ?_)
    refine xo_rd (rd_assign rfl) rfl ?_
    refine xo_nil ?_
    refine xq_seq ?_
  focus
    refine xc_seq ?_
    refine xc_region ?_
    refine xo_rd (rd_move rfl) rfl ?_
    refine xo_rd (rd_eql rfl rfl) rfl ?_
    refine xo_rd (rd_move rfl) rfl ?_
    refine xo_grd rfl rfl (rd_move rfl) rfl ?_
    refine xo_grd rfl rfl (rd_convStr (hOa.rs (by intro z hz; simp [hz])) rfl rfl) rfl ?_
    refine xo_grd rfl rfl (rd_cast (v' := .bool true) (rd_eqs rfl rfl) (congrArg Value.bool (decide_eq_true (by rfl)))) rfl ?_
    refine xo_rd (rd_pickt rfl rfl) rfl ?_
    refine xo_rd (rd_move rfl) rfl ?_
    refine xo_grd rfl rfl (rd_move rfl) rfl ?_
    refine xo_grd rfl rfl (rd_eql rfl rfl) rfl ?_
    refine xo_rd (rd_pickt rfl rfl) rfl ?_
    refine xo_rd (rd_move rfl) rfl ?_
    refine xo_grd rfl rfl (rd_move rfl) rfl ?_
    refine xo_grd rfl rfl (rd_convStr (hOb.rs (by intro z hz; simp [hz])) rfl rfl) rfl ?_
    refine xo_grd rfl rfl (rd_cast (v' := .bool true) (rd_eqs rfl rfl) (congrArg Value.bool (decide_eq_true (by rfl)))) rfl ?_
    refine xo_rd (rd_pickt rfl rfl) rfl ?_
    refine xo_rd (rd_move rfl) rfl ?_
    refine xo_grd rfl rfl (rd_move rfl) rfl ?_
    refine xo_grd rfl rfl (rd_eql rfl rfl) rfl ?_
    refine xo_rd (rd_pickt rfl rfl) rfl ?_
    refine xo_rd (rd_move rfl) rfl ?_
    refine xo_grd rfl rfl (rd_move rfl) rfl ?_
    refine xo_grd rfl rfl (rd_eql rfl rfl) rfl ?_
    refine xo_rd (rd_pickt rfl rfl) rfl ?_
    refine xo_rd (rd_move rfl) rfl ?_
    refine xo_grd rfl rfl (rd_move rfl) rfl ?_
    refine xo_grd rfl rfl (rd_eql rfl rfl) rfl ?_
    refine xo_rd (rd_pickt rfl rfl) rfl ?_
    refine xo_rd (rd_move rfl) rfl ?_
    refine xo_gef rfl rfl rfl (ef_buildL (T := 22) (len := 2) (s := 1) (parts := [(0, .const (.int .u8 0)), (1, .const (.int .u8 200))]) (cells := (ints .u8 [0, 200]).toArray) rfl (by decide) (by decide) (by kernel_rfl) fun r68 => ?_)
    refine xo_gef rfl rfl rfl (ef_call rfl (XF.mono (xf_isRtcpB (some ⟨r68, 0, none⟩) 2 2 [0, 200] true (by decide) rfl (Rs.fresh (List.Mem.head _)) (by omega)) ?_))
    rintro v L' ⟨rfl, rfl⟩
    refine xo_rd (rd_pickt rfl rfl) rfl ?_
    refine xo_rd (rd_move rfl) rfl ?_
    refine xo_gef rfl rfl rfl (ef_buildL (T := 22) (len := 2) (s := 1) (parts := [(0, .const (.int .u8 0)), (1, .const (.int .u8 96))]) (cells := (ints .u8 [0, 96]).toArray) rfl (by decide) (by decide) (by kernel_rfl) fun r72 => ?_)
    refine xo_gef rfl rfl rfl (ef_call rfl (XF.mono (xf_isRtcpB (some ⟨r72, 0, none⟩) 2 2 [0, 96] false (by decide) rfl (Rs.fresh (List.Mem.head _)) (by omega)) ?_))
    rintro v L' ⟨rfl, rfl⟩
    refine xo_grd rfl rfl (rd_not rfl) rfl ?_
    refine xo_rd (rd_pickt rfl rfl) rfl ?_
    refine xo_rd (rd_move rfl) rfl ?_
    refine xo_gef rfl rfl rfl (ef_slice1 rfl rfl rfl fun r77 => ?_)
    refine xo_gef rfl rfl rfl (ef_call rfl (XF.mono (xf_isRtcpB (some ⟨r77, 0, none⟩) 1 1 [200] false (by decide) rfl (Rs.fresh (List.Mem.head _)) (by omega)) ?_))
    rintro v L' ⟨rfl, rfl⟩
    refine xo_grd rfl rfl (rd_not rfl) rfl ?_
    refine xo_rd (rd_pickt rfl rfl) rfl ?_
    refine xo_rd (rd_assign rfl) rfl ?_
    refine xo_nil ?_
    refine xq_seq ?_
    refine xc_ret ?_
    exact xq_ret1 (.inl rfl) Try.results7 rfl (rfl)
  all_goals done
end Go.Proofs.Ytpcmnbagalhjiaa.X
