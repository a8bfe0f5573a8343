/-
  The chapter's examples: a walk of my own.
-/
import Derived.Test.YtohlaabclifbfaaB6
namespace Go.Proofs.Ytohlaabclifbfaa.X
open Go Go.RowKit
set_option linter.unusedVariables false
set_option linter.unusedSimpArgs false
theorem xf_join2 {W : World} {L : List Blk} (p : Option Addr) (n c : Nat) (xs : List Pb) (out : List Int) (e : Int) (hz : joinL (xs.map Pb.q) = (out, e)) (hx : xs.length = n) (hA : PbR W L p xs) (hn : n ≤ 1000000) :
    XF Try.prog W 16 #[.slice p n c] L (fun v L' => ∃ s k l, v = .tuple #[.slice s out.length k, .int .i64 e] ∧ SlO 1 5 (.slice s out.length k) out.length (ints .u8 out) l ∧ L' = l ++ L) := by
  have := xf_join p n c xs hx hA hn
  rwa [hz] at this
theorem xf_rjoin2 {W : World} {L : List Blk} (p : Option Addr) (n c : Nat) (xs : List Pb) (out : List Int) (e : Int) (hz : joinL (xs.map Pb.q) = (out, e)) (hx : xs.length = n) (hA : PbR W L p xs) (hn : n ≤ 1000000) :
    XF Try.prog W 19 #[.slice p n c] L (fun v L' => ∃ s k l, v = .tuple #[.slice s out.length k, .int .i64 e] ∧ SlO 1 5 (.slice s out.length k) out.length (ints .u8 out) l ∧ L' = l ++ L) := by
  have := xf_rjoin p n c xs hx hA hn
  rwa [hz] at this
theorem xf_split2 {W : World} {L : List Blk} (p : Option Addr) (m c : Nat) (bs : List Int) (qs : List Pc) (e : Int) (hz : splitL (bs.length + 1) true bs = (qs, e)) (hx : bs.length = m) (hr : Rs W L p (ints .u8 bs)) (hb : ∀ x, x ∈ bs → By x) (hc : m ≤ c) (hm : m ≤ 1000000) :
    XF Try.prog W 11 #[.slice p m c] L (fun v L' => ∃ xs s k l, v = .tuple #[.slice s xs.length k, .int .i64 e] ∧ xs.map Pb.q = qs ∧ (∀ x, x ∈ xs → x.Ok) ∧ (∀ x, x ∈ xs → x.q.Rg) ∧ SlO 4 35 (.slice s xs.length k) xs.length (xs.flatMap Pb.enc) l ∧ L' = l ++ (bls xs ++ L)) := by
  have := xf_split p m c bs hx hr hb hc hm
  rwa [hz] at this
theorem xf_rsplit2 {W : World} {L : List Blk} (p : Option Addr) (m c : Nat) (bs : List Int) (qs : List Pc) (e : Int) (hz : splitL (bs.length + 1) true bs = (qs, e)) (hx : bs.length = m) (hr : Rs W L p (ints .u8 bs)) (hb : ∀ x, x ∈ bs → By x) (hc : m ≤ c) (hm : m ≤ 1000000) :
    XF Try.prog W 10 #[.slice p m c] L (fun v L' => ∃ xs s k l, v = .tuple #[.slice s xs.length k, .int .i64 e] ∧ xs.map Pb.q = qs ∧ (∀ x, x ∈ xs → x.Ok) ∧ (∀ x, x ∈ xs → x.q.Rg) ∧ SlO 4 46 (.slice s xs.length k) xs.length (xs.flatMap Pb.enc) l ∧ L' = l ++ (bls xs ++ L)) := by
  have := xf_rsplit p m c bs hx hr hb hc hm
  rwa [hz] at this
theorem xf_putChunks2 {W : World} {L : List Blk} (p : Option Addr) (n c : Nat) (xs : List Ck) (q : Pc) (e : Int) (hz : putCh xs = (q, e)) (hx : xs.length = n) (hr : Rs W L p (xs.flatMap Ck.enc)) (hg : ∀ x, x ∈ xs → U4 x.ss) (hn : n ≤ 1000000) :
    XF Try.prog W 26 #[.slice p n c] L (fun v L' => ∃ x : Pb, v = .tuple #[.agg x.enc.toArray, .int .i64 e] ∧ x.q = q ∧ x.Ok ∧ L' = x.l ++ L) := by
  have := xf_putChunks p n c xs hx hr hg hn
  rwa [hz] at this
theorem xf_receiver2 {W : World} {L : List Blk} (ss : Int) (hs : U4 ss) (p : Option Addr) (n c : Nat) (xs : List Bk) (q : Pc) (e : Int) (hz : rcvR ss xs = (q, e)) (hx : xs.length = n) (hr : Rs W L p (xs.flatMap Bk.enc)) (hg : ∀ x, x ∈ xs → x.Rg) (hn : n ≤ 1000000) :
    XF Try.prog W 25 #[.agg #[.int .u32 ss, .slice p n c]] L (fun v L' => ∃ x : Pb, v = .tuple #[.agg x.enc.toArray, .int .i64 e] ∧ x.q = q ∧ x.Ok ∧ L' = x.l ++ L) := by
  have := xf_receiver ss hs p n c xs hx hr hg hn
  rwa [hz] at this
def exP : Pc := ⟨0, 201, [0, 0, 0, 1], 0⟩
def exQ : Pc := ⟨1, 202, [0, 0, 0, 2, 1, 2, 97, 98, 0, 0, 0, 0], 0⟩
def exC : Ck := ⟨2, ⟨#[97, 98]⟩⟩
theorem exP_put : rcvR 1 [] = (exP, 0) := by decide +kernel
theorem exQ_put : putCh [exC] = (exQ, 0) := by decide +kernel
theorem exP_rg : exP.Rg := ⟨⟨by decide, by decide⟩, ⟨by decide, by decide⟩, by unfold By; decide, ⟨by decide, by decide⟩⟩
theorem exQ_rg : exQ.Rg := ⟨⟨by decide, by decide⟩, ⟨by decide, by decide⟩, by unfold By; decide, ⟨by decide, by decide⟩⟩
def exB : List Int := [128, 201, 0, 1, 0, 0, 0, 1, 129, 202, 0, 3, 0, 0, 0, 2, 1, 2, 97, 98, 0, 0, 0, 0]
theorem exJ : joinL [exP, exQ] = (exB, 0) := by decide +kernel
set_option maxHeartbeats 4000000 in
theorem xf_works {W : World} : XF Try.prog W 8 #[] [] (fun v L' => v = .bool true) := by
  refine xf_enter (args := []) Try.func8 rfl Try.ntmps8 rfl ?_
  focus
    refine xc_seq ?_
    refine xc_region ?_
    refine xo_rd (rd_assign rfl) rfl ?_
    refine xo_nil ?_
    refine xq_seq ?_
    refine xc_seq ?_
    refine xc_region ?_
    refine xo_rd (rd_build rfl rfl rfl) rfl ?_
    refine xo_ef rfl (ef_call rfl (XF.mono (xf_receiver2 1 ⟨by decide, by decide⟩ none 0 0 [] exP 0 exP_put rfl Rs.nil (fun x h => by cases h) (Nat.zero_le _)) ?_))
    rintro v L' ⟨x, rfl, hxq, hxo, rfl⟩
    refine xo_rd (rd_move rfl) rfl ?_
    refine xo_rd (rd_extract rfl rfl) rfl ?_
    refine xo_rd (rd_extract rfl rfl) rfl ?_
    refine xo_ef rfl (ef_alloc fun r1 => ?_)
    refine xo_ef rfl (ef_storeB [] _ rfl rfl (by first | rfl | assumption) rfl rfl rfl ?_)
    refine xo_rd (rd_assign rfl) rfl ?_
    refine xo_nil ?_
    refine xq_seq ?_
  focus
    refine xc_seq ?_
    refine xc_region ?_
    refine xo_rd (rd_build rfl rfl rfl) rfl ?_
    refine xo_ef rfl (ef_sliceA (vs := exC.enc) rfl rfl (by decide) (by decide) fun r20 => ?_)
    refine xo_ef rfl (ef_call rfl (XF.mono (xf_putChunks2 (some ⟨r20, 0, none⟩) 1 1 [exC] exQ 0 exQ_put rfl (Rs.fresh (vs := exC.enc) (List.Mem.head _)) (fun x h => by rw [List.mem_singleton.1 h]; exact ⟨by decide, by decide⟩) (by decide)) ?_))
    rintro v L' ⟨y, rfl, hyq, hyo, rfl⟩
    refine xo_perm List.perm_append_comm ?_
    refine xo_rd (rd_move rfl) rfl ?_
    refine xo_rd (rd_extract rfl rfl) rfl ?_
    refine xo_rd (rd_extract rfl rfl) rfl ?_
    refine xo_ef rfl (ef_alloc fun r3 => ?_)
    refine xo_ef rfl (ef_storeB [] _ rfl rfl (by first | rfl | assumption) rfl rfl rfl ?_)
    refine xo_rd (rd_assign rfl) rfl ?_
    refine xo_nil ?_
    refine xq_seq ?_
  have hqs : [x, y].map Pb.q = [exP, exQ] := by show [x.q, y.q] = _; rw [hxq, hyq]
  have hx1 : ∀ L', (∀ z, z ∈ x.l → z ∈ L') → Rs W L' x.p (ints .u8 x.q.bd) := fun L' h => SlO.rs hxo h
  have hy1 : ∀ L', (∀ z, z ∈ y.l → z ∈ L') → Rs W L' y.p (ints .u8 y.q.bd) := fun L' h => SlO.rs hyo h
  focus
    refine xc_seq ?_
    refine xc_region ?_
    refine xo_rd (rd_loadB rfl Kn.o2 (by rfl)) rfl ?_
    refine xo_rd (rd_loadB rfl Kn.o0 (by rfl)) rfl ?_
    refine xo_ef rfl (ef_buildL (T := 29) (len := 2) (s := 4) (cells := ([x, y].flatMap Pb.enc).toArray) rfl (by decide) (by decide) (by kernel_rfl) fun r27 => ?_)
    refine xo_ef rfl (ef_call rfl (XF.mono (xf_join2 (some ⟨r27, 0, none⟩) 2 2 [x, y] exB 0 (by rw [hqs]; exact exJ) rfl ⟨Rs.fresh (List.Mem.head _), (fun z h => by simp only [List.mem_cons, List.not_mem_nil, or_false] at h; rcases h with rfl | rfl; exact hx1 _ (by intro z hz; simp [hz]); exact hy1 _ (by intro z hz; simp [hz])), (fun z h => by simp only [List.mem_cons, List.not_mem_nil, or_false] at h; rcases h with rfl | rfl; rw [hxq]; exact exP_rg; rw [hyq]; exact exQ_rg), (fun z h => by simp only [List.mem_cons, List.not_mem_nil, or_false] at h; rcases h with rfl | rfl; rw [hxq]; decide; rw [hyq]; decide)⟩ (by decide)) ?_))
    rintro v L' ⟨s, k, l, rfl, hO, rfl⟩
    refine xo_rd (rd_move rfl) rfl ?_
    refine xo_rd (rd_extract rfl rfl) rfl ?_
    refine xo_rd (rd_extract rfl rfl) rfl ?_
    refine xo_rd (rd_assign rfl) rfl ?_
    refine xo_rd (rd_assign rfl) rfl ?_
    refine xo_nil ?_
    refine xq_seq ?_
  focus
    refine xc_seq ?_
    refine xc_region ?_
    refine xo_ef rfl (ef_buildL (T := 22) (len := 4) (s := 1) (cells := (ints .u8 [128, 200, 0, 5]).toArray) rfl (by decide) (by decide) (by kernel_rfl) fun r32 => ?_)
    refine xo_ef rfl (ef_call rfl (XF.mono (xf_split2 (some ⟨r32, 0, none⟩) 4 4 [128, 200, 0, 5] [] 61 (by decide +kernel) rfl (Rs.fresh (List.Mem.head _)) (by unfold By; decide) (by decide) (by decide)) ?_))
    rintro v L' ⟨x1, s1, k1, l1, rfl, h1, h2, h3, h4, rfl⟩
    refine xo_rd (rd_move rfl) rfl ?_
    refine xo_rd (rd_extract rfl rfl) rfl ?_
    refine xo_rd (rd_extract rfl rfl) rfl ?_
    refine xo_rd (rd_assign rfl) rfl ?_
    refine xo_rd (rd_assign rfl) rfl ?_
    refine xo_nil ?_
    refine xq_seq ?_
  focus
    refine xc_seq ?_
    refine xc_region ?_
    refine xo_ef rfl (ef_buildL (T := 22) (len := 4) (s := 1) (cells := (ints .u8 [128, 202, 0, 0]).toArray) rfl (by decide) (by decide) (by kernel_rfl) fun r37 => ?_)
    refine xo_ef rfl (ef_call rfl (XF.mono (xf_split2 (some ⟨r37, 0, none⟩) 4 4 [128, 202, 0, 0] [] 60 (by decide +kernel) rfl (Rs.fresh (List.Mem.head _)) (by unfold By; decide) (by decide) (by decide)) ?_))
    rintro v L' ⟨x2, s2, k2, l2, rfl, h5, h6, h7, h8, rfl⟩
    refine xo_rd (rd_move rfl) rfl ?_
    refine xo_rd (rd_extract rfl rfl) rfl ?_
    refine xo_rd (rd_extract rfl rfl) rfl ?_
    refine xo_rd (rd_assign rfl) rfl ?_
    refine xo_rd (rd_assign rfl) rfl ?_
    refine xo_nil ?_
    refine xq_seq ?_
  focus
    refine xc_seq ?_
    refine xc_region ?_
    refine xo_ef rfl (ef_buildL (T := 22) (len := 4) (s := 1) (cells := (ints .u8 [64, 201, 0, 0]).toArray) rfl (by decide) (by decide) (by kernel_rfl) fun r42 => ?_)
    refine xo_ef rfl (ef_call rfl (XF.mono (xf_split2 (some ⟨r42, 0, none⟩) 4 4 [64, 201, 0, 0] [] 20 (by decide +kernel) rfl (Rs.fresh (List.Mem.head _)) (by unfold By; decide) (by decide) (by decide)) ?_))
    rintro v L' ⟨x3, s3, k3, l3, rfl, h9, h10, h11, h12, rfl⟩
    refine xo_rd (rd_move rfl) rfl ?_
    refine xo_rd (rd_extract rfl rfl) rfl ?_
    refine xo_rd (rd_extract rfl rfl) rfl ?_
    refine xo_rd (rd_assign rfl) rfl ?_
    refine xo_rd (rd_assign rfl) rfl ?_
    refine xo_nil ?_
    refine xq_seq ?_
  focus
    refine xc_seq ?_
    refine xc_region ?_
    refine xo_rd (rd_move rfl) rfl ?_
    refine xo_rd (rd_eql rfl rfl) rfl ?_
    refine xo_rd (rd_move rfl) rfl ?_
    refine xo_grd rfl rfl (rd_move rfl) rfl ?_
    refine xo_grd rfl rfl (rd_eql rfl rfl) rfl ?_
    refine xo_rd (rd_pickt rfl rfl) rfl ?_
    refine xo_rd (rd_move rfl) rfl ?_
    refine xo_grd rfl rfl (rd_move rfl) rfl ?_
    refine xo_grd rfl rfl (rd_eql rfl rfl) rfl ?_
    refine xo_rd (rd_pickt rfl rfl) rfl ?_
    refine xo_rd (rd_move rfl) rfl ?_
    refine xo_grd rfl rfl (rd_move rfl) rfl ?_
    refine xo_grd rfl rfl (rd_convStr (hO.rs (by intro z hz; simp [hz])) rfl rfl) rfl ?_
    refine xo_grd rfl rfl (rd_cast (v' := .bool true) (rd_eqs rfl rfl) (congrArg Value.bool (decide_eq_true (by rfl)))) rfl ?_
    refine xo_rd (rd_pickt rfl rfl) rfl ?_
    refine xo_rd (rd_move rfl) rfl ?_
    refine xo_grd rfl rfl (rd_move rfl) rfl ?_
    refine xo_grd rfl rfl (rd_eql rfl rfl) rfl ?_
    refine xo_rd (rd_pickt rfl rfl) rfl ?_
    refine xo_rd (rd_move rfl) rfl ?_
    refine xo_grd rfl rfl (rd_move rfl) rfl ?_
    refine xo_grd rfl rfl (rd_eql rfl rfl) rfl ?_
    refine xo_rd (rd_pickt rfl rfl) rfl ?_
    refine xo_rd (rd_move rfl) rfl ?_
    refine xo_grd rfl rfl (rd_move rfl) rfl ?_
    refine xo_grd rfl rfl (rd_eql rfl rfl) rfl ?_
    refine xo_rd (rd_pickt rfl rfl) rfl ?_
    refine xo_rd (rd_assign rfl) rfl ?_
    refine xo_nil ?_
    refine xq_seq ?_
    refine xc_ret ?_
    exact xq_ret1 (.inl rfl) Try.results8 rfl (rfl)
  all_goals done
end Go.Proofs.Ytohlaabclifbfaa.X
