/-
  What is told is put: walks of my own.
-/
import Derived.Test.YtohlaabclifbfaaB4
namespace Go.Proofs.Ytohlaabclifbfaa.X
open Go Go.RowKit
set_option linter.unusedVariables false
set_option linter.unusedSimpArgs false
theorem perm_in2 {a b : Blk} (l R : List Blk) : (l ++ (a :: b :: R)).Perm (a :: b :: (l ++ R)) := (by classical exact List.perm_iff_count.2 fun a => by simp only [List.append_eq, List.count_append, List.count_cons, List.count_nil, List.cons_append, List.nil_append, List.flatMap_append, List.flatMap_cons, List.flatMap_nil, List.append_nil]; omega)
theorem perm_in3 {a b c : Blk} (l R : List Blk) : (l ++ (a :: b :: c :: R)).Perm (a :: b :: c :: (l ++ R)) := (by classical exact List.perm_iff_count.2 fun a => by simp only [List.append_eq, List.count_append, List.count_cons, List.count_nil, List.cons_append, List.nil_append, List.flatMap_append, List.flatMap_cons, List.flatMap_nil, List.append_nil]; omega)
/-- What a packet is put as. -/
def PuM (L : List Blk) (z : Pc × Int) (v : Value) (L' : List Blk) : Prop :=
  ∃ x : Pb, v = .tuple #[.agg x.enc.toArray, .int .i64 z.2] ∧ x.q = z.1 ∧ x.Ok ∧ L' = x.l ++ L
theorem PuM.err {L : List Blk} (e : Int) : PuM L (.zero, e) (.tuple #[.agg (Pb.enc ⟨.zero, none, 0, []⟩).toArray, .int .i64 e]) L := ⟨⟨.zero, none, 0, []⟩, rfl, rfl, SlO.nil, rfl⟩
structure Sn where
  ss : Int
  nt : Int
  rt : Int
  pk : Int
  oc : Int
  bl : List Bk
structure Sn.Rg (x : Sn) : Prop where
  ss : U4 x.ss
  nt : 0 ≤ x.nt ∧ x.nt ≤ 18446744073709551615
  rt : U4 x.rt
  pk : U4 x.pk
  oc : U4 x.oc
  bl : ∀ b, b ∈ x.bl → b.Rg
def Sn.enc (x : Sn) (v : Value) : List Value := [.int .u32 x.ss, .int .u64 x.nt, .int .u32 x.rt, .int .u32 x.pk, .int .u32 x.oc, v]
def Sn.nums (x : Sn) : List Int := [x.ss, x.nt / 4294967296, x.nt % 4294967296, x.rt, x.pk, x.oc]
def sndR (x : Sn) : Pc × Int := if (blkR x.bl).2 then (⟨x.bl.length, 200, x.nums.flatMap be4 ++ x.bl.flatMap bkL, 0⟩, 0) else (.zero, 2)
def rcvR (ss : Int) (bl : List Bk) : Pc × Int := if (blkR bl).2 then (⟨bl.length, 201, [ss].flatMap be4 ++ bl.flatMap bkL, 0⟩, 0) else (.zero, 2)
theorem blkR_ok {bl : List Bk} (h : (blkR bl).2 = true) : bl.length ≤ 31 ∧ (blkR bl).1 = bl.flatMap bkL ∧ ∀ b, b ∈ bl → b.fit = true := by
  unfold blkR at h ⊢
  by_cases ha : bl.all Bk.fit = true
  · rw [if_pos ha] at h ⊢
    exact ⟨of_decide_eq_true h, rfl, List.all_eq_true.1 ha⟩
  · rw [if_neg ha] at h; cases h
theorem xf_blocks2 {W : World} {L : List Blk} (p : Option Addr) (n c : Nat) (xs : List Bk) (out : List Int) (ok : Bool) (hb : blkR xs = (out, ok)) (hx : xs.length = n) (hr : Rs W L p (xs.flatMap Bk.enc)) (hg : ∀ x, x ∈ xs → x.Rg) (hn : n ≤ 1000000) :
    XF Try.prog W 55 #[.slice p n c] L (fun v L' => ∃ s k l, v = .tuple #[.slice s out.length k, .bool ok] ∧ SlO 1 5 (.slice s out.length k) out.length (ints .u8 out) l ∧ L' = l ++ L) := by
  have := xf_blocks p n c xs hx hr hg hn
  rwa [hb] at this
set_option maxHeartbeats 4000000 in
theorem xf_receiver {W : World} {L : List Blk} (ss : Int) (hs : U4 ss) (p : Option Addr) (n c : Nat) (xs : List Bk) (hx : xs.length = n) (hr : Rs W L p (xs.flatMap Bk.enc)) (hg : ∀ x, x ∈ xs → x.Rg) (hn : n ≤ 1000000) :
    XF Try.prog W 25 #[.agg #[.int .u32 ss, .slice p n c]] L (PuM L (rcvR ss xs)) := by
  refine xf_enter (args := [_]) Try.func25 rfl Try.ntmps25 rfl ?_
  obtain ⟨⟨out, ok⟩, hb⟩ : ∃ z, blkR xs = z := ⟨_, rfl⟩
  have hbo := blkR_ok (bl := xs)
  rw [hb] at hbo
  dsimp only at hbo
  unfold rcvR
  rw [hb]
  dsimp only
  have hu : ∀ z, z ∈ [ss] → U4 z := fun z hz => by rw [List.mem_singleton.1 hz]; exact hs
  cases ok with
  | false =>
    rw [if_neg (by decide)]
    focus
      refine xc_seq ?_
      refine xc_region ?_
      refine xo_ef rfl (ef_box rfl fun r1 => ?_)
      refine xo_ef rfl (ef_alloc fun r2 => ?_)
      refine xo_rd (rd_assign rfl) rfl ?_
      refine xo_nil ?_
      refine xq_seq ?_
      refine xc_seq ?_
      refine xc_region ?_
      refine xo_rd (rd_fieldAddr rfl) rfl ?_
      refine xo_rd (rd_load1 rfl (Cl.o1 rfl)) rfl ?_
      refine xo_ef rfl (ef_call rfl (XF.mono (xf_blocks2 p n c xs out _ hb hx (hr.mono (by intro z hz; simp [hz])) hg hn) ?_))
      rintro v L' ⟨s, k, lb, rfl, hO, rfl⟩
      refine xo_perm (perm_in2 lb L) ?_
      refine xo_rd (rd_move rfl) rfl ?_
      refine xo_rd (rd_extract rfl rfl) rfl ?_
      refine xo_rd (rd_extract rfl rfl) rfl ?_
      refine xo_rd (rd_assign rfl) rfl ?_
      refine xo_rd (rd_assign rfl) rfl ?_
      refine xo_nil ?_
      refine xq_seq ?_
      refine xc_seq ?_
      refine xc_seq ?_
      refine xc_region ?_
      refine xo_rd (rd_move rfl) rfl ?_
      refine xo_rd (rd_not rfl) rfl ?_
      refine xo_nil ?_
      refine xq_seq ?_
      refine xc_condt rfl ?_
      refine xc_seq ?_
      refine xc_region ?_
      refine xo_rd (rd_build rfl rfl rfl) rfl ?_
      refine xo_ef rfl (ef_storeB [] _ rfl rfl (by first | rfl | assumption) rfl rfl rfl ?_)
      refine xo_rd (rd_assign rfl) rfl ?_
      refine xo_nil ?_
      refine xq_seq ?_
      refine xc_ret ?_
      refine xq_then_ret ?_
    exact xq_retB2 (.inl rfl) Try.results25 rfl rfl Kn.o0 rfl ((List.sublist_append_right lb L).trans ((List.sublist_cons_self _ _).trans (List.sublist_cons_self _ _))) (PuM.err 2)
  | true =>
    obtain ⟨h31, ho, hfit⟩ := hbo rfl
    rw [if_pos rfl]
    have hol : out.length = 24 * n := by rw [ho, bkLs_len, hx]
    focus
      refine xc_seq ?_
      refine xc_region ?_
      refine xo_ef rfl (ef_box rfl fun r1 => ?_)
      refine xo_ef rfl (ef_alloc fun r2 => ?_)
      refine xo_rd (rd_assign rfl) rfl ?_
      refine xo_nil ?_
      refine xq_seq ?_
      refine xc_seq ?_
      refine xc_region ?_
      refine xo_rd (rd_fieldAddr rfl) rfl ?_
      refine xo_rd (rd_load1 rfl (Cl.o1 rfl)) rfl ?_
      refine xo_ef rfl (ef_call rfl (XF.mono (xf_blocks2 p n c xs out _ hb hx (hr.mono (by intro z hz; simp [hz])) hg hn) ?_))
      rintro v L' ⟨s, k, lb, rfl, hO, rfl⟩
      refine xo_perm (perm_in2 lb L) ?_
      refine xo_rd (rd_move rfl) rfl ?_
      refine xo_rd (rd_extract rfl rfl) rfl ?_
      refine xo_rd (rd_extract rfl rfl) rfl ?_
      refine xo_rd (rd_assign rfl) rfl ?_
      refine xo_rd (rd_assign rfl) rfl ?_
      refine xo_nil ?_
      refine xq_seq ?_
      refine xc_seq ?_
      refine xc_seq ?_
      refine xc_region ?_
      refine xo_rd (rd_move rfl) rfl ?_
      refine xo_rd (rd_not rfl) rfl ?_
      refine xo_nil ?_
      refine xq_seq ?_
      refine xc_condf rfl ?_
      refine xc_skip ?_
      refine xq_seq ?_
      refine xc_seq ?_
      refine xc_drawM [0, 1, 2, 4, 0, 16, 32, 64, 0, 384, 520, 2047, 4095] [0, 1, 2, 4, 0, 16, 32, 64, 0, 384, 520, 2047, 4095] ([(r1, .cells #[.int .u32 ss, .slice p n c] 60 (0, 0))]) (by kernel_rfl) (by kernel_rfl) (by kernel_rfl) ?_
      refine xm_take 0 (m' := 1) rfl (by kernel_rfl) (by first | exact Sb.refl | exact Sb.nil | (repeat (first | exact Sb.nil | exact Sb.refl | exact Sb.app0 | apply Sb.keep | apply Sb.keepApp | apply Sb.cons | apply Sb.app))) (rd_fieldAddr rfl) rfl (by kernel_rfl) ?_
      refine xm_take 1 (m' := 3) rfl (by kernel_rfl) (by first | exact Sb.refl | exact Sb.nil | (repeat (first | exact Sb.nil | exact Sb.refl | exact Sb.app0 | apply Sb.keep | apply Sb.keepApp | apply Sb.cons | apply Sb.app))) (rd_load1 rfl (Cl.o0 rfl)) rfl (by kernel_rfl) ?_
      refine xm_take 2 (m' := 7) rfl (by kernel_rfl) (by first | exact Sb.refl | exact Sb.nil | (repeat (first | exact Sb.nil | exact Sb.refl | exact Sb.app0 | apply Sb.keep | apply Sb.keepApp | apply Sb.cons | apply Sb.app))) (rd_len rfl) rfl (by kernel_rfl) ?_
      refine xm_take 3 (m' := 15) rfl (by kernel_rfl) (by first | exact Sb.refl | exact Sb.nil | (repeat (first | exact Sb.nil | exact Sb.refl | exact Sb.app0 | apply Sb.keep | apply Sb.keepApp | apply Sb.cons | apply Sb.app))) (rd_convn rfl (by omega) (by omega)) rfl (by kernel_rfl) ?_
      refine xm_take 4 (m' := 31) rfl (by kernel_rfl) (by first | exact Sb.refl | exact Sb.nil | (repeat (first | exact Sb.nil | exact Sb.refl | exact Sb.app0 | apply Sb.keep | apply Sb.keepApp | apply Sb.cons | apply Sb.app))) (rd_fieldAddr rfl) rfl (by kernel_rfl) ?_
      refine xm_take 5 (m' := 63) rfl (by kernel_rfl) (by first | exact Sb.refl | exact Sb.nil | (repeat (first | exact Sb.nil | exact Sb.refl | exact Sb.app0 | apply Sb.keep | apply Sb.keepApp | apply Sb.cons | apply Sb.app))) (rd_load1 rfl (Cl.o0 rfl)) rfl (by kernel_rfl) ?_
      refine xm_take 8 (m' := 319) rfl (by kernel_rfl) (by first | exact Sb.refl | exact Sb.nil | (repeat (first | exact Sb.nil | exact Sb.refl | exact Sb.app0 | apply Sb.keep | apply Sb.keepApp | apply Sb.cons | apply Sb.app))) (rd_move rfl) rfl (by kernel_rfl) ?_
      refine xm_one 6 (m' := 383) rfl (by kernel_rfl) rfl (by kernel_rfl) (ef_slice1 rfl rfl rfl fun r21 => ?_)
      refine ⟨(by first | exact Sb.refl | exact Sb.nil | (repeat (first | exact Sb.nil | exact Sb.refl | exact Sb.app0 | apply Sb.keep | apply Sb.keepApp | apply Sb.cons | apply Sb.app))), ?_⟩
      refine xm_one 7 (m' := 511) rfl (by kernel_rfl) rfl (by kernel_rfl) (ef_call rfl (XF.mono (xf_long (some ⟨r21, 0, none⟩) 1 1 [ss] rfl (Rs.fresh (List.Mem.head _)) hu (by decide)) ?_))
      rintro v L' ⟨s2, k2, l2, rfl, hO2, rfl⟩
      refine xmx_perm (perm_in3 l2 (lb ++ L)) ?_
      refine ⟨(by first | exact Sb.refl | exact Sb.nil | (repeat (first | exact Sb.nil | exact Sb.refl | exact Sb.app0 | apply Sb.keep | apply Sb.keepApp | apply Sb.cons | apply Sb.app))), ?_⟩
      refine xm_one 9 (m' := 1023) rfl (by kernel_rfl) rfl (by kernel_rfl) (ef_appendS [_, _, _] (lb ++ L) l2 (news := ints .u8 out) rfl rfl hO2 rfl (hO.rs (by intro z hz; simp [hz])) (by rw [ints_len, Nat.mul_one]) (ints_one _ _) (by decide) (by omega) (by omega) fun s3 k3 l3 hO3 hk3 => ?_)
      refine ⟨(by first | exact Sb.refl | exact Sb.nil | (repeat (first | exact Sb.nil | exact Sb.refl | exact Sb.app0 | apply Sb.keep | apply Sb.keepApp | apply Sb.cons | apply Sb.app))), ?_⟩
      refine xm_take 10 (m' := 2047) rfl (by kernel_rfl) (by first | exact Sb.refl | exact Sb.nil | (repeat (first | exact Sb.nil | exact Sb.refl | exact Sb.app0 | apply Sb.keep | apply Sb.keepApp | apply Sb.cons | apply Sb.app))) (rd_build rfl rfl rfl) rfl (by kernel_rfl) ?_
      refine xm_one 11 (m' := 4095) rfl (by kernel_rfl) rfl (by kernel_rfl) (ef_storeB [_] _ rfl rfl (by first | rfl | assumption) rfl rfl rfl ?_)
      refine ⟨(by first | exact Sb.refl | exact Sb.nil | (repeat (first | exact Sb.nil | exact Sb.refl | exact Sb.app0 | apply Sb.keep | apply Sb.keepApp | apply Sb.cons | apply Sb.app))), ?_⟩
      refine xm_take 12 (m' := 8191) rfl (by kernel_rfl) (by first | exact Sb.refl | exact Sb.nil | (repeat (first | exact Sb.nil | exact Sb.refl | exact Sb.app0 | apply Sb.keep | apply Sb.keepApp | apply Sb.cons | apply Sb.app))) (rd_assign rfl) rfl (by kernel_rfl) ?_
      refine xm_done (by kernel_rfl) ?_
      refine xq_seq ?_
      refine xc_ret ?_
    have hbl : ([ss].flatMap be4 ++ xs.flatMap bkL).length = 4 * 1 + out.length := by rw [List.length_append, flat4_len, ho]; rfl
    refine xq_retB2 (.inl rfl) Try.results25 rfl rfl Kn.o1 rfl ((List.Sublist.append_left (List.sublist_append_right lb L) l3).trans ((List.sublist_cons_self _ _).trans ((List.sublist_cons_self _ _).trans (List.sublist_cons_self _ _)))) ⟨⟨⟨xs.length, 201, [ss].flatMap be4 ++ xs.flatMap bkL, 0⟩, s3, k3, l3⟩, ?_, rfl, ?_, rfl⟩
    · unfold Pb.enc Pc.enc; dsimp only; rw [hbl, hx]; rfl
    · unfold Pb.Ok; dsimp only; rw [hbl, ints_app, ← ho]; exact hO3
theorem Sn.nums_u4 {x : Sn} (h : x.Rg) : ∀ z, z ∈ x.nums → U4 z := by
  have h1 := h.ss; have h2 := h.nt; have h3 := h.rt; have h4 := h.pk; have h5 := h.oc
  intro z hz
  simp only [Sn.nums, List.mem_cons, List.not_mem_nil, or_false] at hz
  rcases hz with rfl | rfl | rfl | rfl | rfl | rfl
  · exact h1
  · unfold U4; omega
  · unfold U4; omega
  · exact h3
  · exact h4
  · exact h5
set_option maxHeartbeats 4000000 in
theorem xf_sender {W : World} {L : List Blk} (x : Sn) (hx : x.Rg) (p : Option Addr) (c : Nat) (hr : Rs W L p (x.bl.flatMap Bk.enc)) (hn : x.bl.length ≤ 1000000) :
    XF Try.prog W 24 #[.agg (x.enc (.slice p x.bl.length c)).toArray] L (PuM L (sndR x)) := by
  refine xf_enter (args := [_]) Try.func24 rfl Try.ntmps24 rfl ?_
  have hu := Sn.nums_u4 hx
  have g1 := hx.ss; have g2 := hx.nt; have g3 := hx.rt; have g4 := hx.pk; have g5 := hx.oc; have hg := hx.bl
  obtain ⟨ss, nt, rt, pk, oc, xs⟩ := x
  dsimp only [U4, Sn.nums] at hr hn g1 g2 g3 g4 g5 hg hu
  obtain ⟨⟨out, ok⟩, hb⟩ : ∃ z, blkR xs = z := ⟨_, rfl⟩
  have hbo := blkR_ok (bl := xs)
  rw [hb] at hbo
  dsimp only at hbo
  unfold sndR Sn.enc Sn.nums
  dsimp only
  rw [hb]
  dsimp only
  cases ok with
  | false =>
    rw [if_neg (by decide)]
    focus
      refine xc_seq ?_
      refine xc_region ?_
      refine xo_ef rfl (ef_box rfl fun r1 => ?_)
      refine xo_ef rfl (ef_alloc fun r2 => ?_)
      refine xo_rd (rd_assign rfl) rfl ?_
      refine xo_nil ?_
      refine xq_seq ?_
      refine xc_seq ?_
      refine xc_region ?_
      refine xo_rd (rd_fieldAddr rfl) rfl ?_
      refine xo_rd (rd_load1 rfl (Cl.o1 rfl)) rfl ?_
      refine xo_ef rfl (ef_call rfl (XF.mono (xf_blocks2 p xs.length c xs out _ hb rfl (hr.mono (by intro z hz; simp [hz])) hg hn) ?_))
      rintro v L' ⟨s, k, lb, rfl, hO, rfl⟩
      refine xo_perm (perm_in2 lb L) ?_
      refine xo_rd (rd_move rfl) rfl ?_
      refine xo_rd (rd_extract rfl rfl) rfl ?_
      refine xo_rd (rd_extract rfl rfl) rfl ?_
      refine xo_rd (rd_assign rfl) rfl ?_
      refine xo_rd (rd_assign rfl) rfl ?_
      refine xo_nil ?_
      refine xq_seq ?_
      refine xc_seq ?_
      refine xc_seq ?_
      refine xc_region ?_
      refine xo_rd (rd_move rfl) rfl ?_
      refine xo_rd (rd_not rfl) rfl ?_
      refine xo_nil ?_
      refine xq_seq ?_
      refine xc_condt rfl ?_
      refine xc_seq ?_
      refine xc_region ?_
      refine xo_rd (rd_build rfl rfl rfl) rfl ?_
      refine xo_ef rfl (ef_storeB [] _ rfl rfl (by first | rfl | assumption) rfl rfl rfl ?_)
      refine xo_rd (rd_assign rfl) rfl ?_
      refine xo_nil ?_
      refine xq_seq ?_
      refine xc_ret ?_
      refine xq_then_ret ?_
    exact xq_retB2 (.inl rfl) Try.results24 rfl rfl Kn.o0 rfl ((List.sublist_append_right lb L).trans ((List.sublist_cons_self _ _).trans (List.sublist_cons_self _ _))) (PuM.err 2)
  | true =>
    obtain ⟨h31, ho, hfit⟩ := hbo rfl
    rw [if_pos rfl]
    have hol : out.length = 24 * xs.length := by rw [ho, bkLs_len]
    focus
      refine xc_seq ?_
      refine xc_region ?_
      refine xo_ef rfl (ef_box rfl fun r1 => ?_)
      refine xo_ef rfl (ef_alloc fun r2 => ?_)
      refine xo_rd (rd_assign rfl) rfl ?_
      refine xo_nil ?_
      refine xq_seq ?_
      refine xc_seq ?_
      refine xc_region ?_
      refine xo_rd (rd_fieldAddr rfl) rfl ?_
      refine xo_rd (rd_load1 rfl (Cl.o1 rfl)) rfl ?_
      refine xo_ef rfl (ef_call rfl (XF.mono (xf_blocks2 p xs.length c xs out _ hb rfl (hr.mono (by intro z hz; simp [hz])) hg hn) ?_))
      rintro v L' ⟨s, k, lb, rfl, hO, rfl⟩
      refine xo_perm (perm_in2 lb L) ?_
      refine xo_rd (rd_move rfl) rfl ?_
      refine xo_rd (rd_extract rfl rfl) rfl ?_
      refine xo_rd (rd_extract rfl rfl) rfl ?_
      refine xo_rd (rd_assign rfl) rfl ?_
      refine xo_rd (rd_assign rfl) rfl ?_
      refine xo_nil ?_
      refine xq_seq ?_
      refine xc_seq ?_
      refine xc_seq ?_
      refine xc_region ?_
      refine xo_rd (rd_move rfl) rfl ?_
      refine xo_rd (rd_not rfl) rfl ?_
      refine xo_nil ?_
      refine xq_seq ?_
      refine xc_condf rfl ?_
      refine xc_skip ?_
      refine xq_seq ?_
      refine xc_seq ?_
      refine xc_region ?_
      refine xo_rd (rd_fieldAddr rfl) rfl ?_
      refine xo_rd (rd_load1 rfl (Cl.o1 rfl)) rfl ?_
      refine xo_rd (rd_fieldAddr rfl) rfl ?_
      refine xo_rd (rd_load1 rfl (Cl.o1 rfl)) rfl ?_
      refine xo_rd (rd_cast (v' := .int .u64 (nt / 4294967296)) (rd_shr rfl rfl (by decide) (by decide)) rfl) rfl ?_
      refine xo_rd (rd_convn rfl (by omega) (by omega)) rfl ?_
      refine xo_rd (rd_fieldAddr rfl) rfl ?_
      refine xo_rd (rd_load1 rfl (Cl.o1 rfl)) rfl ?_
      refine xo_rd (rd_cast (v' := .int .u32 (nt % 4294967296)) (rd_conv rfl) (congrArg (Value.int .u32) (wrap32 nt))) rfl ?_
      refine xo_rd (rd_fieldAddr rfl) rfl ?_
      refine xo_rd (rd_load1 rfl (Cl.o1 rfl)) rfl ?_
      refine xo_rd (rd_fieldAddr rfl) rfl ?_
      refine xo_rd (rd_load1 rfl (Cl.o1 rfl)) rfl ?_
      refine xo_rd (rd_fieldAddr rfl) rfl ?_
      refine xo_rd (rd_load1 rfl (Cl.o1 rfl)) rfl ?_
      refine xo_ef rfl (ef_buildL (T := 55) (len := 6) (s := 1) (cells := (ints .u32 [ss, nt / 4294967296, nt % 4294967296, rt, pk, oc]).toArray) rfl (by decide) (by decide) (by kernel_rfl) fun r31 => ?_)
      refine xo_ef rfl (ef_call rfl (XF.mono (xf_long (some ⟨r31, 0, none⟩) 6 6 [ss, nt / 4294967296, nt % 4294967296, rt, pk, oc] rfl (Rs.fresh (List.Mem.head _)) hu (by decide)) ?_))
      rintro v L' ⟨s2, k2, l2, rfl, hO2, rfl⟩
      refine xo_perm (perm_in3 l2 (lb ++ L)) ?_
      refine xo_rd (rd_assign rfl) rfl ?_
      refine xo_nil ?_
      refine xq_seq ?_
      refine xc_seq ?_
      refine xc_drawM [0, 1, 2, 4, 0, 0, 48, 72, 255, 511] [0, 1, 2, 4, 0, 0, 48, 72, 255, 511] ([(r1, .cells #[.int .u32 ss, .int .u64 nt, .int .u32 rt, .int .u32 pk, .int .u32 oc, .slice p xs.length c] 53 (0, 0))]) (by kernel_rfl) (by kernel_rfl) (by kernel_rfl) ?_
      refine xm_take 0 (m' := 1) rfl (by kernel_rfl) (by first | exact Sb.refl | exact Sb.nil | (repeat (first | exact Sb.nil | exact Sb.refl | exact Sb.app0 | apply Sb.keep | apply Sb.keepApp | apply Sb.cons | apply Sb.app))) (rd_fieldAddr rfl) rfl (by kernel_rfl) ?_
      refine xm_take 1 (m' := 3) rfl (by kernel_rfl) (by first | exact Sb.refl | exact Sb.nil | (repeat (first | exact Sb.nil | exact Sb.refl | exact Sb.app0 | apply Sb.keep | apply Sb.keepApp | apply Sb.cons | apply Sb.app))) (rd_load1 rfl (Cl.o0 rfl)) rfl (by kernel_rfl) ?_
      refine xm_take 2 (m' := 7) rfl (by kernel_rfl) (by first | exact Sb.refl | exact Sb.nil | (repeat (first | exact Sb.nil | exact Sb.refl | exact Sb.app0 | apply Sb.keep | apply Sb.keepApp | apply Sb.cons | apply Sb.app))) (rd_len rfl) rfl (by kernel_rfl) ?_
      refine xm_take 3 (m' := 15) rfl (by kernel_rfl) (by first | exact Sb.refl | exact Sb.nil | (repeat (first | exact Sb.nil | exact Sb.refl | exact Sb.app0 | apply Sb.keep | apply Sb.keepApp | apply Sb.cons | apply Sb.app))) (rd_convn rfl (by omega) (by omega)) rfl (by kernel_rfl) ?_
      refine xm_take 4 (m' := 31) rfl (by kernel_rfl) (by first | exact Sb.refl | exact Sb.nil | (repeat (first | exact Sb.nil | exact Sb.refl | exact Sb.app0 | apply Sb.keep | apply Sb.keepApp | apply Sb.cons | apply Sb.app))) (rd_move rfl) rfl (by kernel_rfl) ?_
      refine xm_take 5 (m' := 63) rfl (by kernel_rfl) (by first | exact Sb.refl | exact Sb.nil | (repeat (first | exact Sb.nil | exact Sb.refl | exact Sb.app0 | apply Sb.keep | apply Sb.keepApp | apply Sb.cons | apply Sb.app))) (rd_move rfl) rfl (by kernel_rfl) ?_
      refine xm_one 6 (m' := 127) rfl (by kernel_rfl) rfl (by kernel_rfl) (ef_appendS [_, _, _] (lb ++ L) l2 (news := ints .u8 out) rfl rfl hO2 rfl (hO.rs (by intro z hz; simp [hz])) (by rw [ints_len, Nat.mul_one]) (ints_one _ _) (by decide) (by omega) (by omega) fun s3 k3 l3 hO3 hk3 => ?_)
      refine ⟨(by first | exact Sb.refl | exact Sb.nil | (repeat (first | exact Sb.nil | exact Sb.refl | exact Sb.app0 | apply Sb.keep | apply Sb.keepApp | apply Sb.cons | apply Sb.app))), ?_⟩
      refine xm_take 7 (m' := 255) rfl (by kernel_rfl) (by first | exact Sb.refl | exact Sb.nil | (repeat (first | exact Sb.nil | exact Sb.refl | exact Sb.app0 | apply Sb.keep | apply Sb.keepApp | apply Sb.cons | apply Sb.app))) (rd_build rfl rfl rfl) rfl (by kernel_rfl) ?_
      refine xm_one 8 (m' := 511) rfl (by kernel_rfl) rfl (by kernel_rfl) (ef_storeB [_] _ rfl rfl (by first | rfl | assumption) rfl rfl rfl ?_)
      refine ⟨(by first | exact Sb.refl | exact Sb.nil | (repeat (first | exact Sb.nil | exact Sb.refl | exact Sb.app0 | apply Sb.keep | apply Sb.keepApp | apply Sb.cons | apply Sb.app))), ?_⟩
      refine xm_take 9 (m' := 1023) rfl (by kernel_rfl) (by first | exact Sb.refl | exact Sb.nil | (repeat (first | exact Sb.nil | exact Sb.refl | exact Sb.app0 | apply Sb.keep | apply Sb.keepApp | apply Sb.cons | apply Sb.app))) (rd_assign rfl) rfl (by kernel_rfl) ?_
      refine xm_done (by kernel_rfl) ?_
      refine xq_seq ?_
      refine xc_ret ?_
    have hbl : ([ss, nt / 4294967296, nt % 4294967296, rt, pk, oc].flatMap be4 ++ xs.flatMap bkL).length = 4 * 6 + out.length := by rw [List.length_append, flat4_len, ho]; rfl
    all_goals refine xq_retB2 (.inl rfl) Try.results24 rfl rfl Kn.o1 rfl ((List.Sublist.append_left (List.sublist_append_right lb L) l3).trans ((List.sublist_cons_self _ _).trans ((List.sublist_cons_self _ _).trans (List.sublist_cons_self _ _)))) ⟨⟨⟨xs.length, 200, [ss, nt / 4294967296, nt % 4294967296, rt, pk, oc].flatMap be4 ++ xs.flatMap bkL, 0⟩, s3, k3, l3⟩, ?_, rfl, ?_, rfl⟩
    all_goals first | (unfold Pb.enc Pc.enc; dsimp only; rw [hbl]; rfl) | (unfold Pb.Ok; dsimp only; rw [hbl, ints_app, ← ho]; exact hO3)
end Go.Proofs.Ytohlaabclifbfaa.X
