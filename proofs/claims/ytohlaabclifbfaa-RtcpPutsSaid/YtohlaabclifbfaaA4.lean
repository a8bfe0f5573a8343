/-
  A packet is taken off bytes: a walk of my own.
-/
import Derived.Test.YtohlaabclifbfaaA3
namespace Go.Proofs.Ytohlaabclifbfaa.X
open Go Go.RowKit
set_option linter.unusedVariables false
set_option linter.unusedSimpArgs false
theorem By.take {l : List Int} (h : ∀ x, x ∈ l → By x) (k : Nat) : ∀ x, x ∈ l.take k → By x := fun x hx => h x (List.mem_of_mem_take hx)
theorem By.drop {l : List Int} (h : ∀ x, x ∈ l → By x) (k : Nat) : ∀ x, x ∈ l.drop k → By x := fun x hx => h x (List.mem_of_mem_drop hx)
theorem Rs.ints_take {W : World} {L : List Blk} {p : Option Addr} {k : IntKind} {xs : List Int} (h : Rs W L p (ints k xs)) (i : Nat) : Rs W L p (ints k (xs.take i)) := by rw [X.ints_take]; exact h.take i
theorem getD_get {l : List Int} {i : Nat} (h : i < l.length) : l.getD i 0 = l[i] := by simp [List.getD_eq_getElem?_getD, h]
theorem ints_snoc (k : IntKind) (l : List Int) (x : Int) : ints k (l ++ [x]) = ints k l ++ [.int k x] := by simp [ints]
theorem perm_end4 (a b c d : List Blk) : (a ++ (b ++ (c ++ d))).Perm (d ++ (a ++ (b ++ c))) := (by classical exact List.perm_iff_count.2 fun a => by simp only [List.append_eq, List.count_append, List.count_cons, List.count_nil, List.cons_append, List.nil_append, List.flatMap_append, List.flatMap_cons, List.flatMap_nil, List.append_nil]; omega)
theorem takeP_short {b : List Int} {f : Bool} (h : b.length < 4) : takeP b f = (10, .zero, []) := by
  rcases b with _ | ⟨a, _ | ⟨b, _ | ⟨c, _ | ⟨d, t⟩⟩⟩⟩
  · rfl
  · rfl
  · rfl
  · rfl
  · simp at h; omega
theorem and8_31 (x : Int) (h0 : 0 ≤ x) (h1 : x ≤ 255) : bits .and .u8 x 31 = x % 32 := u8_ind (p := fun x => bits .and .u8 x 31 = x % 32) (by decide +kernel) x h0 h1
/-- What take answers. -/
def TkM (W : World) (L : List Blk) (p : Option Addr) (bs : List Int) (z : Int × Pc × List Int) (v : Value) (L' : List Blk) : Prop :=
  ∃ p1 c1 l p2 c2, v = .tuple #[.agg (z.2.1.enc (.slice p1 z.2.1.bd.length c1)).toArray, .slice p2 z.2.2.length c2, .int .i64 z.1] ∧ SlO 1 5 (.slice p1 z.2.1.bd.length c1) z.2.1.bd.length (ints .u8 z.2.1.bd) l ∧ (∀ L0, Rs W L0 p (ints .u8 bs) → Rs W L0 p2 (ints .u8 z.2.2)) ∧ z.2.2.length ≤ c2 ∧ L' = l ++ L
theorem TkM.err {W : World} {L : List Blk} {p : Option Addr} {bs : List Int} (e : Int) : TkM W L p bs (e, .zero, []) (.tuple #[.agg (Pc.zero.enc (.slice none 0 0)).toArray, .slice none 0 0, .int .i64 e]) L :=
  ⟨none, 0, [], none, 0, rfl, SlO.nil, fun _ _ => Rs.nil, Nat.le_refl _, rfl⟩
set_option maxHeartbeats 4000000 in
theorem xf_take {W : World} {L : List Blk} (p : Option Addr) (m c : Nat) (bs : List Int) (f : Bool) (hx : bs.length = m) (hr : Rs W L p (ints .u8 bs)) (hb : ∀ x, x ∈ bs → By x) (hc : m ≤ c) (hm : m ≤ 1000000000) :
    XF Try.prog W 47 #[.slice p m c, .bool f] L (TkM W L p bs (takeP bs f)) := by
  refine xf_enter (args := [_, _]) Try.func47 rfl Try.ntmps47 rfl ?_
  by_cases h4 : m < 4
  · rw [takeP_short (by omega)]
    focus
      refine xc_seq ?_
      refine xc_region ?_
      refine xo_ef rfl (ef_alloc fun r4 => ?_)
      refine xo_rd (rd_assign rfl) rfl ?_
      refine xo_rd (rd_assign rfl) rfl ?_
      refine xo_nil ?_
      refine xq_seq ?_
      refine xc_seq ?_
      refine xc_block ?_
      refine xc_seq ?_
      refine xc_region ?_
      refine xo_rd (rd_move rfl) rfl ?_
      refine xo_rd (rd_len rfl) rfl ?_
      refine xo_rd (rd_lss rfl rfl) rfl ?_
      refine xo_rd (rd_assign rfl) rfl ?_
      refine xo_nil ?_
      refine xq_seq ?_
      refine xc_dec rfl (fun h1 => ?_) (fun h1 => (by exfalso; omega))
      refine xc_seq ?_
      refine xc_region ?_
      refine xo_rd (rd_build rfl rfl rfl) rfl ?_
      refine xo_ef rfl (ef_storeB [] _ rfl rfl (by first | rfl | assumption) rfl rfl rfl ?_)
      refine xo_rd (rd_assign rfl) rfl ?_
      refine xo_rd (rd_assign rfl) rfl ?_
      refine xo_nil ?_
      refine xq_seq ?_
      refine xc_ret ?_
      refine xq_block_ret ?_
      refine xq_then_ret ?_
    exact xq_retB3 (.inl rfl) Try.results47 rfl rfl rfl Kn.o0 rfl (List.sublist_cons_self _ _) (TkM.err 10)
  iterate 4
    (rcases bs with _ | ⟨_, bs⟩
     · exact absurd (by simp at hx; omega) h4)
  rename_i b0 b1 b2 b3
  obtain ⟨b, o, rfl, hc0⟩ := hr.int (i := 0) (by simp)
  have hcell : ∀ i z, (b0 :: b1 :: b2 :: b3 :: bs)[i]? = some z → ∀ L', (∀ z, z ∈ L → z ∈ L') → Cl W L' b (o + i * 1) (.int .u8 z) := fun i z hz L' hL' => by
    obtain ⟨hi, rfl⟩ := List.getElem?_eq_some_iff.1 hz
    obtain ⟨b', o', he, hci⟩ := (hr.mono hL').int hi
    simp only [Option.some.injEq, Addr.mk.injEq, and_true] at he
    obtain ⟨rfl, rfl⟩ := he
    exact hci
  have g0 := hb b0 (by simp); have g1 := hb b1 (by simp); have g2 := hb b2 (by simp); have g3 := hb b3 (by simp)
  unfold By at g0 g1 g2 g3
  obtain ⟨k, hk⟩ : ∃ k : Nat, k = (4 * vl [b2, b3]).toNat := ⟨_, rfl⟩
  have hkv : (k : Int) = 4 * (b2 * 256 + b3) := by rw [hk]; simp only [vl, List.foldl]; omega
  show XC Try.prog W _ _ (bodyPost _ _ (XP W (TkM W L _ _ (takeT b0 b1 (4 * vl [b2, b3]).toNat bs f)))) L _
  rw [← hk]
  obtain ⟨fb, hfb⟩ : ∃ fb, isFirst b1 = fb := ⟨_, rfl⟩
  have hmb : bs.length + 4 = m := by simpa using hx
  have hkb : k ≤ 262140 := by omega
  focus
    refine xc_seq ?_
    refine xc_region ?_
    refine xo_ef rfl (ef_alloc fun r4 => ?_)
    refine xo_rd (rd_assign rfl) rfl ?_
    refine xo_rd (rd_assign rfl) rfl ?_
    refine xo_nil ?_
    refine xq_seq ?_
  refine xc_join (ι := Unit) (fun _ => b0 / 64 = 2 ∧ ¬ (f = true ∧ isFirst b1 = false)) (fun _ => (r4, .cells #[.int .u8 0, .int .u8 0, .slice none 0 0, .int .u8 0] 35 (0, 0)) :: L) (fun _ => [(0, .slice (some ⟨b, o, none⟩) m c), (4, .pointer (some ⟨r4, 0, none⟩))]) ?_ ?_
  · focus
      refine xc_block ?_
      refine xc_seq ?_
      refine xc_region ?_
      refine xo_rd (rd_move rfl) rfl ?_
      refine xo_rd (rd_len rfl) rfl ?_
      refine xo_rd (rd_lss rfl rfl) rfl ?_
      refine xo_rd (rd_assign rfl) rfl ?_
      refine xo_nil ?_
      refine xq_seq ?_
      refine xc_dec rfl (fun hq1 => (by exfalso; omega)) (fun hq1 => ?_)
      refine xc_seq ?_
      refine xc_region ?_
      refine xo_rd (rd_move rfl) rfl ?_
      refine xo_rd (rd_indexAddr rfl rfl (by omega) (by omega)) rfl ?_
      refine xo_rd (rd_load1 rfl (hcell 0 _ rfl _ (by intro z hz; simp [hz]))) rfl ?_
      refine xo_rd (rd_cast (v' := .int .u8 (b0 / 64)) (rd_shr rfl rfl (by decide) (by decide)) rfl) rfl ?_
      refine xo_rd (rd_neq rfl rfl) rfl ?_
      refine xo_rd (rd_assign rfl) rfl ?_
      refine xo_nil ?_
      refine xq_seq ?_
      refine xc_ndec rfl (fun hq2 => ?_) (fun hq2 => ?_)
      refine xc_seq ?_
      refine xc_region ?_
      refine xo_rd (rd_build rfl rfl rfl) rfl ?_
      refine xo_ef rfl (ef_storeB [] _ rfl rfl (by first | rfl | assumption) rfl rfl rfl ?_)
      refine xo_rd (rd_assign rfl) rfl ?_
      refine xo_rd (rd_assign rfl) rfl ?_
      refine xo_nil ?_
      refine xq_seq ?_
      refine xc_ret ?_
      refine xq_block_ret ?_
      refine xq_then_ret ?_
      rotate_left
      refine xc_seq ?_
      refine xc_region ?_
      refine xo_rd (rd_move rfl) rfl ?_
      refine xo_rd (rd_move rfl) rfl ?_
      refine xo_split 24 rfl (fun hq3 => ?_) (fun hq3 => ?_)
      refine xo_grd rfl rfl (rd_move rfl) rfl ?_
      refine xo_grd rfl rfl (rd_indexAddr rfl rfl (by omega) (by omega)) rfl ?_
      refine xo_grd rfl rfl (rd_load1 rfl (hcell 1 _ rfl _ (by intro z hz; simp [hz]))) rfl ?_
      refine xo_gef rfl rfl rfl (ef_call rfl (XF.mono (xf_isFirst b1 fb hfb) ?_))
      rintro v L' ⟨rfl, rfl⟩
      refine xo_grd rfl rfl (rd_not rfl) rfl ?_
      refine xo_rd (rd_pickt rfl rfl) rfl ?_
      refine xo_rd (rd_assign rfl) rfl ?_
      refine xo_nil ?_
      refine xq_seq ?_
      refine xc_cond rfl (fun hq4 => ?_) (fun hq4 => ?_)
      refine xc_seq ?_
      refine xc_region ?_
      refine xo_rd (rd_build rfl rfl rfl) rfl ?_
      refine xo_ef rfl (ef_storeB [] _ rfl rfl (by first | rfl | assumption) rfl rfl rfl ?_)
      refine xo_rd (rd_assign rfl) rfl ?_
      refine xo_rd (rd_assign rfl) rfl ?_
      refine xo_nil ?_
      refine xq_seq ?_
      refine xc_ret ?_
      refine xq_block_ret ?_
      refine xq_then_ret ?_
      rotate_left
      refine xc_skip ?_
      refine xq_block ?_
      rotate_left
      refine xo_gskip rfl rfl rfl rfl ?_
      refine xo_gskip rfl rfl rfl rfl ?_
      refine xo_gskip rfl rfl rfl rfl ?_
      refine xo_gskip rfl rfl rfl rfl ?_
      refine xo_gskip rfl rfl rfl rfl ?_
      refine xo_rd (rd_pickf rfl rfl) rfl ?_
      refine xo_rd (rd_assign rfl) rfl ?_
      refine xo_nil ?_
      refine xq_seq ?_
      refine xc_condf rfl ?_
      refine xc_skip ?_
      refine xq_block ?_
      rotate_left
    · rw [show takeT b0 b1 k bs f = (20, .zero, []) from by unfold takeT; rw [if_pos hq2]]
      exact xq_retB3 (.inl rfl) Try.results47 rfl rfl rfl Kn.o0 rfl (List.sublist_cons_self _ _) (TkM.err 20)
    · have e1 : isFirst b1 = false := by rw [hfb]; simpa using hq4
      rw [show takeT b0 b1 k bs f = (60, .zero, []) from by unfold takeT; rw [if_neg (by omega), if_pos ⟨hq3, e1⟩]]
      exact xq_retB3 (.inl rfl) Try.results47 rfl rfl rfl Kn.o0 rfl (List.sublist_cons_self _ _) (TkM.err 60)
    · have e1 : isFirst b1 = true := by rw [hfb]; simpa using hq4
      exact xq_joined () ⟨hq2, fun h => by rw [e1] at h; exact absurd h.2 (by decide)⟩ rfl (by repeat (first | exact keep_nil | refine keep_cons rfl ?_))
    · exact xq_joined () ⟨hq2, fun h => by rw [hq3] at h; exact absurd h.1 (by decide)⟩ rfl (by repeat (first | exact keep_nil | refine keep_cons rfl ?_))
  · rintro _ ⟨h64, hff⟩
    focus
      refine xc_seq ?_
      refine xc_drawM [0, 1, 2, 4, 8, 16, 0, 64, 128, 256, 544, 1024, 4095] [0, 1, 2, 4, 8, 16, 0, 64, 128, 256, 544, 1024, 4095] (L) (by kernel_rfl) (by kernel_rfl) (by kernel_rfl) ?_
      refine xm_take 0 (m' := 1) rfl (by kernel_rfl) (by first | exact Sb.refl | exact Sb.nil | (repeat (first | exact Sb.nil | exact Sb.refl | exact Sb.app0 | apply Sb.keep | apply Sb.keepApp | apply Sb.cons | apply Sb.app))) (rd_move rfl) rfl (by kernel_rfl) ?_
      refine xm_take 1 (m' := 3) rfl (by kernel_rfl) (by first | exact Sb.refl | exact Sb.nil | (repeat (first | exact Sb.nil | exact Sb.refl | exact Sb.app0 | apply Sb.keep | apply Sb.keepApp | apply Sb.cons | apply Sb.app))) (rd_indexAddr rfl rfl (by omega) (by omega)) rfl (by kernel_rfl) ?_
      refine xm_take 2 (m' := 7) rfl (by kernel_rfl) (by first | exact Sb.refl | exact Sb.nil | (repeat (first | exact Sb.nil | exact Sb.refl | exact Sb.app0 | apply Sb.keep | apply Sb.keepApp | apply Sb.cons | apply Sb.app))) (rd_load1 rfl (hcell 2 _ rfl _ (by intro z hz; simp [hz]))) rfl (by kernel_rfl) ?_
      refine xm_take 3 (m' := 15) rfl (by kernel_rfl) (by first | exact Sb.refl | exact Sb.nil | (repeat (first | exact Sb.nil | exact Sb.refl | exact Sb.app0 | apply Sb.keep | apply Sb.keepApp | apply Sb.cons | apply Sb.app))) (rd_convn rfl (by omega) (by omega)) rfl (by kernel_rfl) ?_
      refine xm_take 4 (m' := 31) rfl (by kernel_rfl) (by first | exact Sb.refl | exact Sb.nil | (repeat (first | exact Sb.nil | exact Sb.refl | exact Sb.app0 | apply Sb.keep | apply Sb.keepApp | apply Sb.cons | apply Sb.app))) (rd_cast (v' := .int .i64 (b2 * 256)) (rd_shl rfl rfl (by decide) (by decide)) (congrArg (Value.int .i64) (show IntKind.i64.wrap (b2 * 256) = b2 * 256 from KB.h _ (by omega) (by omega)))) rfl (by kernel_rfl) ?_
      refine xm_take 5 (m' := 63) rfl (by kernel_rfl) (by first | exact Sb.refl | exact Sb.nil | (repeat (first | exact Sb.nil | exact Sb.refl | exact Sb.app0 | apply Sb.keep | apply Sb.keepApp | apply Sb.cons | apply Sb.app))) (rd_addn rfl rfl (by omega) (by omega)) rfl (by kernel_rfl) ?_
      refine xm_take 6 (m' := 127) rfl (by kernel_rfl) (by first | exact Sb.refl | exact Sb.nil | (repeat (first | exact Sb.nil | exact Sb.refl | exact Sb.app0 | apply Sb.keep | apply Sb.keepApp | apply Sb.cons | apply Sb.app))) (rd_move rfl) rfl (by kernel_rfl) ?_
      refine xm_take 7 (m' := 255) rfl (by kernel_rfl) (by first | exact Sb.refl | exact Sb.nil | (repeat (first | exact Sb.nil | exact Sb.refl | exact Sb.app0 | apply Sb.keep | apply Sb.keepApp | apply Sb.cons | apply Sb.app))) (rd_indexAddr rfl rfl (by omega) (by omega)) rfl (by kernel_rfl) ?_
      refine xm_take 8 (m' := 511) rfl (by kernel_rfl) (by first | exact Sb.refl | exact Sb.nil | (repeat (first | exact Sb.nil | exact Sb.refl | exact Sb.app0 | apply Sb.keep | apply Sb.keepApp | apply Sb.cons | apply Sb.app))) (rd_load1 rfl (hcell 3 _ rfl _ (by intro z hz; simp [hz]))) rfl (by kernel_rfl) ?_
      refine xm_take 9 (m' := 1023) rfl (by kernel_rfl) (by first | exact Sb.refl | exact Sb.nil | (repeat (first | exact Sb.nil | exact Sb.refl | exact Sb.app0 | apply Sb.keep | apply Sb.keepApp | apply Sb.cons | apply Sb.app))) (rd_convn rfl (by omega) (by omega)) rfl (by kernel_rfl) ?_
      refine xm_take 10 (m' := 2047) rfl (by kernel_rfl) (by first | exact Sb.refl | exact Sb.nil | (repeat (first | exact Sb.nil | exact Sb.refl | exact Sb.app0 | apply Sb.keep | apply Sb.keepApp | apply Sb.cons | apply Sb.app))) (rd_addn rfl rfl (by omega) (by omega)) rfl (by kernel_rfl) ?_
      refine xm_take 11 (m' := 4095) rfl (by kernel_rfl) (by first | exact Sb.refl | exact Sb.nil | (repeat (first | exact Sb.nil | exact Sb.refl | exact Sb.app0 | apply Sb.keep | apply Sb.keepApp | apply Sb.cons | apply Sb.app))) (rd_muln rfl rfl (by omega) (by omega)) rfl (by kernel_rfl) ?_
      refine xm_take 12 (m' := 8191) rfl (by kernel_rfl) (by first | exact Sb.refl | exact Sb.nil | (repeat (first | exact Sb.nil | exact Sb.refl | exact Sb.app0 | apply Sb.keep | apply Sb.keepApp | apply Sb.cons | apply Sb.app))) (rd_assign rfl) rfl (by kernel_rfl) ?_
      refine xm_done (by kernel_rfl) ?_
      refine xq_seq ?_
      refine xc_seq ?_
      refine xc_seq ?_
      refine xc_region ?_
      refine xo_rd (rd_move rfl) rfl ?_
      refine xo_rd (rd_move rfl) rfl ?_
      refine xo_rd (rd_len rfl) rfl ?_
      refine xo_rd (rd_gtr rfl rfl) rfl ?_
      refine xo_nil ?_
      refine xq_seq ?_
      refine xc_dec rfl (fun hq1 => ?_) (fun hq1 => ?_)
      refine xc_seq ?_
      refine xc_region ?_
      refine xo_rd (rd_build rfl rfl rfl) rfl ?_
      refine xo_ef rfl (ef_storeB [] _ rfl rfl (by first | rfl | assumption) rfl rfl rfl ?_)
      refine xo_rd (rd_assign rfl) rfl ?_
      refine xo_rd (rd_assign rfl) rfl ?_
      refine xo_nil ?_
      refine xq_seq ?_
      refine xc_ret ?_
      refine xq_then_ret ?_
      rotate_left
      refine xc_skip ?_
      refine xq_seq ?_
      rotate_left
    · rw [show takeT b0 b1 k bs f = (61, .zero, []) from by unfold takeT; rw [if_neg (by omega), if_neg hff, if_pos (by omega)]]
      exact xq_retB3 (.inl rfl) Try.results47 rfl rfl rfl Kn.o0 rfl (List.sublist_cons_self _ _) (TkM.err 61)
    · focus
        refine xc_seq ?_
        refine xc_drawM [0, 1, 2, 4, 0, 16, 32, 72, 255] [0, 1, 2, 4, 0, 16, 32, 72, 255] (L) (by kernel_rfl) (by kernel_rfl) (by kernel_rfl) ?_
        refine xm_take 0 (m' := 1) rfl (by kernel_rfl) (by first | exact Sb.refl | exact Sb.nil | (repeat (first | exact Sb.nil | exact Sb.refl | exact Sb.app0 | apply Sb.keep | apply Sb.keepApp | apply Sb.cons | apply Sb.app))) (rd_move rfl) rfl (by kernel_rfl) ?_
        refine xm_take 1 (m' := 3) rfl (by kernel_rfl) (by first | exact Sb.refl | exact Sb.nil | (repeat (first | exact Sb.nil | exact Sb.refl | exact Sb.app0 | apply Sb.keep | apply Sb.keepApp | apply Sb.cons | apply Sb.app))) (rd_indexAddr rfl rfl (by omega) (by omega)) rfl (by kernel_rfl) ?_
        refine xm_take 2 (m' := 7) rfl (by kernel_rfl) (by first | exact Sb.refl | exact Sb.nil | (repeat (first | exact Sb.nil | exact Sb.refl | exact Sb.app0 | apply Sb.keep | apply Sb.keepApp | apply Sb.cons | apply Sb.app))) (rd_load1 rfl (hcell 0 _ rfl _ (by intro z hz; simp [hz]))) rfl (by kernel_rfl) ?_
        refine xm_take 3 (m' := 15) rfl (by kernel_rfl) (by first | exact Sb.refl | exact Sb.nil | (repeat (first | exact Sb.nil | exact Sb.refl | exact Sb.app0 | apply Sb.keep | apply Sb.keepApp | apply Sb.cons | apply Sb.app))) (rd_cast (v' := .int .u8 (b0 % 32)) (rd_and rfl rfl) (congrArg (Value.int .u8) (and8_31 b0 g0.1 g0.2))) rfl (by kernel_rfl) ?_
        refine xm_take 4 (m' := 31) rfl (by kernel_rfl) (by first | exact Sb.refl | exact Sb.nil | (repeat (first | exact Sb.nil | exact Sb.refl | exact Sb.app0 | apply Sb.keep | apply Sb.keepApp | apply Sb.cons | apply Sb.app))) (rd_move rfl) rfl (by kernel_rfl) ?_
        refine xm_take 5 (m' := 63) rfl (by kernel_rfl) (by first | exact Sb.refl | exact Sb.nil | (repeat (first | exact Sb.nil | exact Sb.refl | exact Sb.app0 | apply Sb.keep | apply Sb.keepApp | apply Sb.cons | apply Sb.app))) (rd_indexAddr rfl rfl (by omega) (by omega)) rfl (by kernel_rfl) ?_
        refine xm_take 6 (m' := 127) rfl (by kernel_rfl) (by first | exact Sb.refl | exact Sb.nil | (repeat (first | exact Sb.nil | exact Sb.refl | exact Sb.app0 | apply Sb.keep | apply Sb.keepApp | apply Sb.cons | apply Sb.app))) (rd_load1 rfl (hcell 1 _ rfl _ (by intro z hz; simp [hz]))) rfl (by kernel_rfl) ?_
        refine xm_take 7 (m' := 255) rfl (by kernel_rfl) (by first | exact Sb.refl | exact Sb.nil | (repeat (first | exact Sb.nil | exact Sb.refl | exact Sb.app0 | apply Sb.keep | apply Sb.keepApp | apply Sb.cons | apply Sb.app))) (rd_build rfl rfl rfl) rfl (by kernel_rfl) ?_
        refine xm_one 8 (m' := 511) rfl (by kernel_rfl) rfl (by kernel_rfl) (ef_storeB [] _ rfl rfl (by first | rfl | assumption) rfl rfl rfl ?_)
        refine ⟨(by first | exact Sb.refl | exact Sb.nil | (repeat (first | exact Sb.nil | exact Sb.refl | exact Sb.app0 | apply Sb.keep | apply Sb.keepApp | apply Sb.cons | apply Sb.app))), ?_⟩
        refine xm_done (by kernel_rfl) ?_
        refine xq_seq ?_
        refine xc_seq ?_
        refine xc_drawM [0, 0, 3, 0, 0, 24, 7, 127] [0, 0, 3, 0, 0, 24, 7, 127] (L) (by kernel_rfl) (by kernel_rfl) (by kernel_rfl) ?_
        refine xm_take 0 (m' := 1) rfl (by kernel_rfl) (by first | exact Sb.refl | exact Sb.nil | (repeat (first | exact Sb.nil | exact Sb.refl | exact Sb.app0 | apply Sb.keep | apply Sb.keepApp | apply Sb.cons | apply Sb.app))) (rd_move rfl) rfl (by kernel_rfl) ?_
        refine xm_take 1 (m' := 3) rfl (by kernel_rfl) (by first | exact Sb.refl | exact Sb.nil | (repeat (first | exact Sb.nil | exact Sb.refl | exact Sb.app0 | apply Sb.keep | apply Sb.keepApp | apply Sb.cons | apply Sb.app))) (rd_move rfl) rfl (by kernel_rfl) ?_
        refine xm_take 2 (m' := 7) rfl (by kernel_rfl) (by first | exact Sb.refl | exact Sb.nil | (repeat (first | exact Sb.nil | exact Sb.refl | exact Sb.app0 | apply Sb.keep | apply Sb.keepApp | apply Sb.cons | apply Sb.app))) (rd_slLH rfl rfl rfl (by omega) (by omega) (by omega)) rfl (by kernel_rfl) ?_
        refine xm_take 3 (m' := 15) rfl (by kernel_rfl) (by first | exact Sb.refl | exact Sb.nil | (repeat (first | exact Sb.nil | exact Sb.refl | exact Sb.app0 | apply Sb.keep | apply Sb.keepApp | apply Sb.cons | apply Sb.app))) (rd_move rfl) rfl (by kernel_rfl) ?_
        refine xm_take 4 (m' := 31) rfl (by kernel_rfl) (by first | exact Sb.refl | exact Sb.nil | (repeat (first | exact Sb.nil | exact Sb.refl | exact Sb.app0 | apply Sb.keep | apply Sb.keepApp | apply Sb.cons | apply Sb.app))) (rd_move rfl) rfl (by kernel_rfl) ?_
        refine xm_take 5 (m' := 63) rfl (by kernel_rfl) (by first | exact Sb.refl | exact Sb.nil | (repeat (first | exact Sb.nil | exact Sb.refl | exact Sb.app0 | apply Sb.keep | apply Sb.keepApp | apply Sb.cons | apply Sb.app))) (rd_slLo rfl rfl (by omega) (by omega)) rfl (by kernel_rfl) ?_
        refine xm_take 6 (m' := 127) rfl (by kernel_rfl) (by first | exact Sb.refl | exact Sb.nil | (repeat (first | exact Sb.nil | exact Sb.refl | exact Sb.app0 | apply Sb.keep | apply Sb.keepApp | apply Sb.cons | apply Sb.app))) (rd_assign rfl) rfl (by kernel_rfl) ?_
        refine xm_take 7 (m' := 255) rfl (by kernel_rfl) (by first | exact Sb.refl | exact Sb.nil | (repeat (first | exact Sb.nil | exact Sb.refl | exact Sb.app0 | apply Sb.keep | apply Sb.keepApp | apply Sb.cons | apply Sb.app))) (rd_assign rfl) rfl (by kernel_rfl) ?_
        refine xm_done (by kernel_rfl) ?_
        refine xq_seq ?_
      have hE : (4 * (1 + b2 * 256 + b3)).toNat = 4 + k := by omega
      have hE1 : 4 + k - Int.toNat 4 = k := Nat.add_sub_cancel_left 4 k
      have hE2 : m - (4 + k) = bs.length - k := by omega
      rw [hE, hE1, hE2]
      have hp1 : ∀ L0, Rs W L0 (some ⟨b, o, none⟩) (ints .u8 (b0 :: b1 :: b2 :: b3 :: bs)) → Rs W L0 (slp (some ⟨b, o, none⟩) c (Int.toNat 4) 1) (ints .u8 bs) := fun L0 h => h.slp c 4 (by rw [ints_len]; omega)
      have hp2 : ∀ L0, Rs W L0 (some ⟨b, o, none⟩) (ints .u8 (b0 :: b1 :: b2 :: b3 :: bs)) → Rs W L0 (slp (some ⟨b, o, none⟩) c (4 + k) 1) (ints .u8 (bs.drop k)) := fun L0 h => by
        have := h.slp c (4 + k) (by rw [ints_len]; omega)
        rwa [← ints_drop, show (b0 :: b1 :: b2 :: b3 :: bs).drop (4 + k) = bs.drop k from by rw [Nat.add_comm]; rfl] at this
      generalize slp (some ⟨b, o, none⟩) c (Int.toNat 4) 1 = p1 at *
      generalize slp (some ⟨b, o, none⟩) c (4 + k) 1 = p2 at *
      have hkl : k ≤ bs.length := by omega
      refine xc_join (ι := Int × Nat) (fun s => takeT b0 b1 k bs f = (0, ⟨b0 % 32, b1, bs.take s.2, s.1⟩, bs.drop k) ∧ s.2 ≤ k ∧ By s.1) (fun s => (r4, .cells #[.int .u8 (b0 % 32), .int .u8 b1, .slice none 0 0, .int .u8 s.1] 35 (0, 0)) :: L) (fun s => [(4, .pointer (some ⟨r4, 0, none⟩)), (5, .slice p2 (bs.length - k) (c - (4 + k))), (8, .slice p1 s.2 (c - Int.toNat 4))]) ?_ ?_
      · skip
        by_cases h32 : b0 / 32 % 2 = 1
        · by_cases hk0 : k = 0 ∨ k < bs.length
          · focus
              refine xc_seq ?_
              refine xc_region ?_
              refine xo_rd (rd_move rfl) rfl ?_
              refine xo_rd (rd_indexAddr rfl rfl (by omega) (by omega)) rfl ?_
              refine xo_rd (rd_load1 rfl (hcell 0 _ rfl _ (by intro z hz; simp [hz]))) rfl ?_
              refine xo_rd (rd_cast (v' := .int .u8 (b0 / 32 % 2 * 32)) (rd_and rfl rfl) (congrArg (Value.int .u8) (and8_32 b0 g0.1 g0.2))) rfl ?_
              refine xo_rd (rd_neq rfl rfl) rfl ?_
              refine xo_nil ?_
              refine xq_seq ?_
              refine xc_ndec rfl (fun h1 => ?_) (fun h1 => (by exfalso; omega))
              refine xc_seq ?_
              refine xc_region ?_
              refine xo_rd (rd_move rfl) rfl ?_
              refine xo_rd (rd_len rfl) rfl ?_
              refine xo_rd (rd_assign rfl) rfl ?_
              refine xo_nil ?_
              refine xq_seq ?_
              refine xc_seq ?_
              refine xc_seq ?_
              refine xc_region ?_
              refine xo_rd (rd_move rfl) rfl ?_
              refine xo_rd (rd_len rfl) rfl ?_
              refine xo_rd (rd_gtr rfl rfl) rfl ?_
              refine xo_rd (rd_move rfl) rfl ?_
              refine xo_dec 73 rfl (fun h2 => ?_) (fun h2 => ?_)
              refine xo_gskip rfl rfl rfl rfl ?_
              refine xo_gskip rfl rfl rfl rfl ?_
              refine xo_rd (rd_pickt rfl rfl) rfl ?_
              refine xo_rd (rd_move rfl) rfl ?_
              refine xo_gskip rfl rfl rfl rfl ?_
              refine xo_gskip rfl rfl rfl rfl ?_
              refine xo_gskip rfl rfl rfl rfl ?_
              refine xo_gskip rfl rfl rfl rfl ?_
              refine xo_gskip rfl rfl rfl rfl ?_
              refine xo_gskip rfl rfl rfl rfl ?_
              refine xo_rd (rd_pickt rfl rfl) rfl ?_
              refine xo_rd (rd_move rfl) rfl ?_
              refine xo_gskip rfl rfl rfl rfl ?_
              refine xo_gskip rfl rfl rfl rfl ?_
              refine xo_gskip rfl rfl rfl rfl ?_
              refine xo_gskip rfl rfl rfl rfl ?_
              refine xo_gskip rfl rfl rfl rfl ?_
              refine xo_gskip rfl rfl rfl rfl ?_
              refine xo_gskip rfl rfl rfl rfl ?_
              refine xo_rd (rd_pickt rfl rfl) rfl ?_
              refine xo_rd (rd_move rfl) rfl ?_
              refine xo_gskip rfl rfl rfl rfl ?_
              refine xo_gskip rfl rfl rfl rfl ?_
              refine xo_gskip rfl rfl rfl rfl ?_
              refine xo_gskip rfl rfl rfl rfl ?_
              refine xo_gskip rfl rfl rfl rfl ?_
              refine xo_gskip rfl rfl rfl rfl ?_
              refine xo_gskip rfl rfl rfl rfl ?_
              refine xo_gskip rfl rfl rfl rfl ?_
              refine xo_rd (rd_pickt rfl rfl) rfl ?_
              refine xo_nil ?_
              refine xq_seq ?_
              refine xc_condt rfl ?_
              refine xc_seq ?_
              refine xc_region ?_
              refine xo_rd (rd_build rfl rfl rfl) rfl ?_
              refine xo_ef rfl (ef_storeB [] _ rfl rfl (by first | rfl | assumption) rfl rfl rfl ?_)
              refine xo_rd (rd_assign rfl) rfl ?_
              refine xo_rd (rd_assign rfl) rfl ?_
              refine xo_nil ?_
              refine xq_seq ?_
              refine xc_ret ?_
              refine xq_then_ret ?_
              refine xq_then_ret ?_
              rotate_left
              refine xo_grd rfl rfl (rd_move rfl) rfl ?_
              refine xo_grd rfl rfl (rd_eql rfl rfl) rfl ?_
              refine xo_rd (rd_pickf rfl rfl) rfl ?_
              refine xo_rd (rd_move rfl) rfl ?_
              refine xo_dec 77 rfl (fun h3 => ?_) (fun h3 => (by exfalso; omega))
              refine xo_gskip rfl rfl rfl rfl ?_
              refine xo_gskip rfl rfl rfl rfl ?_
              refine xo_gskip rfl rfl rfl rfl ?_
              refine xo_gskip rfl rfl rfl rfl ?_
              refine xo_gskip rfl rfl rfl rfl ?_
              refine xo_gskip rfl rfl rfl rfl ?_
              refine xo_rd (rd_pickt rfl rfl) rfl ?_
              refine xo_rd (rd_move rfl) rfl ?_
              refine xo_gskip rfl rfl rfl rfl ?_
              refine xo_gskip rfl rfl rfl rfl ?_
              refine xo_gskip rfl rfl rfl rfl ?_
              refine xo_gskip rfl rfl rfl rfl ?_
              refine xo_gskip rfl rfl rfl rfl ?_
              refine xo_gskip rfl rfl rfl rfl ?_
              refine xo_gskip rfl rfl rfl rfl ?_
              refine xo_rd (rd_pickt rfl rfl) rfl ?_
              refine xo_rd (rd_move rfl) rfl ?_
              refine xo_gskip rfl rfl rfl rfl ?_
              refine xo_gskip rfl rfl rfl rfl ?_
              refine xo_gskip rfl rfl rfl rfl ?_
              refine xo_gskip rfl rfl rfl rfl ?_
              refine xo_gskip rfl rfl rfl rfl ?_
              refine xo_gskip rfl rfl rfl rfl ?_
              refine xo_gskip rfl rfl rfl rfl ?_
              refine xo_gskip rfl rfl rfl rfl ?_
              refine xo_rd (rd_pickt rfl rfl) rfl ?_
              refine xo_nil ?_
              refine xq_seq ?_
              refine xc_condt rfl ?_
              refine xc_seq ?_
              refine xc_region ?_
              refine xo_rd (rd_build rfl rfl rfl) rfl ?_
              refine xo_ef rfl (ef_storeB [] _ rfl rfl (by first | rfl | assumption) rfl rfl rfl ?_)
              refine xo_rd (rd_assign rfl) rfl ?_
              refine xo_rd (rd_assign rfl) rfl ?_
              refine xo_nil ?_
              refine xq_seq ?_
              refine xc_ret ?_
              refine xq_then_ret ?_
              refine xq_then_ret ?_
              rotate_left
            all_goals rw [show takeT b0 b1 k bs f = (21, .zero, []) from by unfold takeT; rw [if_neg (by omega), if_neg hff, if_neg (by omega), if_pos h32, if_pos (by rcases hk0 with h | h; exact .inr (.inl h); exact .inl h)]]
            all_goals exact xq_retB3 (.inl rfl) Try.results47 rfl rfl rfl Kn.o0 rfl (List.sublist_cons_self _ _) (TkM.err 21)
          · obtain ⟨bb, oo, hpp, hcz⟩ := (hp1 L hr).int (i := k - 1) (by omega)
            have hz := hb bs[k - 1] (by simp)
            have hzg : bs.getD (k - 1) 0 = bs[k - 1] := getD_get (by omega)
            generalize bs[k - 1] = z at *
            unfold By at hz
            have hcz' : ∀ L', (∀ z, z ∈ L → z ∈ L') → Cl W L' bb (oo + ((k : Int) - 1).toNat * 1) (.int .u8 z) := fun L' h => by
              rw [show ((k : Int) - 1).toNat = k - 1 from by omega]; exact hcz.mono h
            subst hpp
            focus
              refine xc_seq ?_
              refine xc_region ?_
              refine xo_rd (rd_move rfl) rfl ?_
              refine xo_rd (rd_indexAddr rfl rfl (by omega) (by omega)) rfl ?_
              refine xo_rd (rd_load1 rfl (hcell 0 _ rfl _ (by intro z hz; simp [hz]))) rfl ?_
              refine xo_rd (rd_cast (v' := .int .u8 (b0 / 32 % 2 * 32)) (rd_and rfl rfl) (congrArg (Value.int .u8) (and8_32 b0 g0.1 g0.2))) rfl ?_
              refine xo_rd (rd_neq rfl rfl) rfl ?_
              refine xo_nil ?_
              refine xq_seq ?_
              refine xc_ndec rfl (fun hw1 => ?_) (fun hw1 => (by exfalso; omega))
              refine xc_seq ?_
              refine xc_region ?_
              refine xo_rd (rd_move rfl) rfl ?_
              refine xo_rd (rd_len rfl) rfl ?_
              refine xo_rd (rd_assign rfl) rfl ?_
              refine xo_nil ?_
              refine xq_seq ?_
              refine xc_seq ?_
              refine xc_seq ?_
              refine xc_region ?_
              refine xo_rd (rd_move rfl) rfl ?_
              refine xo_rd (rd_len rfl) rfl ?_
              refine xo_rd (rd_gtr rfl rfl) rfl ?_
              refine xo_rd (rd_move rfl) rfl ?_
              refine xo_dec 73 rfl (fun hw2 => (by exfalso; omega)) (fun hw2 => ?_)
              refine xo_grd rfl rfl (rd_move rfl) rfl ?_
              refine xo_grd rfl rfl (rd_eql rfl rfl) rfl ?_
              refine xo_rd (rd_pickf rfl rfl) rfl ?_
              refine xo_rd (rd_move rfl) rfl ?_
              refine xo_dec 77 rfl (fun hw3 => (by exfalso; omega)) (fun hw3 => ?_)
              refine xo_grd rfl rfl (rd_move rfl) rfl ?_
              refine xo_grd rfl rfl (rd_move rfl) rfl ?_
              refine xo_grd rfl rfl (rd_subn rfl rfl (by omega) (by omega)) rfl ?_
              refine xo_grd rfl rfl (rd_indexAddr rfl rfl (by omega) (by omega)) rfl ?_
              refine xo_grd rfl rfl (rd_load1 rfl (hcz' _ (by intro z hz; simp [hz]))) rfl ?_
              refine xo_grd rfl rfl (rd_eql rfl rfl) rfl ?_
              refine xo_rd (rd_pickf rfl rfl) rfl ?_
              refine xo_rd (rd_move rfl) rfl ?_
              refine xo_dec 85 rfl (fun hw4 => ?_) (fun hw4 => ?_)
              refine xo_gskip rfl rfl rfl rfl ?_
              refine xo_gskip rfl rfl rfl rfl ?_
              refine xo_gskip rfl rfl rfl rfl ?_
              refine xo_gskip rfl rfl rfl rfl ?_
              refine xo_gskip rfl rfl rfl rfl ?_
              refine xo_gskip rfl rfl rfl rfl ?_
              refine xo_gskip rfl rfl rfl rfl ?_
              refine xo_rd (rd_pickt rfl rfl) rfl ?_
              refine xo_rd (rd_move rfl) rfl ?_
              refine xo_gskip rfl rfl rfl rfl ?_
              refine xo_gskip rfl rfl rfl rfl ?_
              refine xo_gskip rfl rfl rfl rfl ?_
              refine xo_gskip rfl rfl rfl rfl ?_
              refine xo_gskip rfl rfl rfl rfl ?_
              refine xo_gskip rfl rfl rfl rfl ?_
              refine xo_gskip rfl rfl rfl rfl ?_
              refine xo_gskip rfl rfl rfl rfl ?_
              refine xo_rd (rd_pickt rfl rfl) rfl ?_
              refine xo_nil ?_
              refine xq_seq ?_
              refine xc_condt rfl ?_
              refine xc_seq ?_
              refine xc_region ?_
              refine xo_rd (rd_build rfl rfl rfl) rfl ?_
              refine xo_ef rfl (ef_storeB [] _ rfl rfl (by first | rfl | assumption) rfl rfl rfl ?_)
              refine xo_rd (rd_assign rfl) rfl ?_
              refine xo_rd (rd_assign rfl) rfl ?_
              refine xo_nil ?_
              refine xq_seq ?_
              refine xc_ret ?_
              refine xq_then_ret ?_
              refine xq_then_ret ?_
              rotate_left
              refine xo_grd rfl rfl (rd_move rfl) rfl ?_
              refine xo_grd rfl rfl (rd_move rfl) rfl ?_
              refine xo_grd rfl rfl (rd_subn rfl rfl (by omega) (by omega)) rfl ?_
              refine xo_grd rfl rfl (rd_indexAddr rfl rfl (by omega) (by omega)) rfl ?_
              refine xo_grd rfl rfl (rd_load1 rfl (hcz' _ (by intro z hz; simp [hz]))) rfl ?_
              refine xo_grd rfl rfl (rd_remn rfl rfl (by omega) (by omega)) rfl ?_
              refine xo_grd rfl rfl (rd_neq rfl rfl) rfl ?_
              refine xo_rd (rd_pickf rfl rfl) rfl ?_
              refine xo_rd (rd_move rfl) rfl ?_
              refine xo_ndec 94 rfl (fun hw5 => ?_) (fun hw5 => ?_)
              refine xo_gskip rfl rfl rfl rfl ?_
              refine xo_gskip rfl rfl rfl rfl ?_
              refine xo_gskip rfl rfl rfl rfl ?_
              refine xo_gskip rfl rfl rfl rfl ?_
              refine xo_gskip rfl rfl rfl rfl ?_
              refine xo_gskip rfl rfl rfl rfl ?_
              refine xo_gskip rfl rfl rfl rfl ?_
              refine xo_gskip rfl rfl rfl rfl ?_
              refine xo_rd (rd_pickt rfl rfl) rfl ?_
              refine xo_nil ?_
              refine xq_seq ?_
              refine xc_condt rfl ?_
              refine xc_seq ?_
              refine xc_region ?_
              refine xo_rd (rd_build rfl rfl rfl) rfl ?_
              refine xo_ef rfl (ef_storeB [] _ rfl rfl (by first | rfl | assumption) rfl rfl rfl ?_)
              refine xo_rd (rd_assign rfl) rfl ?_
              refine xo_rd (rd_assign rfl) rfl ?_
              refine xo_nil ?_
              refine xq_seq ?_
              refine xc_ret ?_
              refine xq_then_ret ?_
              refine xq_then_ret ?_
              rotate_left
              refine xo_grd rfl rfl (rd_move rfl) rfl ?_
              refine xo_grd rfl rfl (rd_move rfl) rfl ?_
              refine xo_grd rfl rfl (rd_subn rfl rfl (by omega) (by omega)) rfl ?_
              refine xo_grd rfl rfl (rd_indexAddr rfl rfl (by omega) (by omega)) rfl ?_
              refine xo_grd rfl rfl (rd_load1 rfl (hcz' _ (by intro z hz; simp [hz]))) rfl ?_
              refine xo_grd rfl rfl (rd_convn rfl (by omega) (by omega)) rfl ?_
              refine xo_grd rfl rfl (rd_move rfl) rfl ?_
              refine xo_grd rfl rfl (rd_gtr rfl rfl) rfl ?_
              refine xo_rd (rd_pickf rfl rfl) rfl ?_
              refine xo_nil ?_
              refine xq_seq ?_
              refine xc_dec rfl (fun hw6 => ?_) (fun hw6 => ?_)
              refine xc_seq ?_
              refine xc_region ?_
              refine xo_rd (rd_build rfl rfl rfl) rfl ?_
              refine xo_ef rfl (ef_storeB [] _ rfl rfl (by first | rfl | assumption) rfl rfl rfl ?_)
              refine xo_rd (rd_assign rfl) rfl ?_
              refine xo_rd (rd_assign rfl) rfl ?_
              refine xo_nil ?_
              refine xq_seq ?_
              refine xc_ret ?_
              refine xq_then_ret ?_
              refine xq_then_ret ?_
              rotate_left
              refine xc_skip ?_
              refine xq_seq ?_
              refine xc_seq ?_
              refine xc_region ?_
              refine xo_rd (rd_move rfl) rfl ?_
              refine xo_rd (rd_move rfl) rfl ?_
              refine xo_rd (rd_subn rfl rfl (by omega) (by omega)) rfl ?_
              refine xo_rd (rd_indexAddr rfl rfl (by omega) (by omega)) rfl ?_
              refine xo_rd (rd_load1 rfl (hcz' _ (by intro z hz; simp [hz]))) rfl ?_
              refine xo_rd (rd_fieldAddr rfl) rfl ?_
              refine xo_ef rfl (ef_store1 [] _ rfl rfl (by first | rfl | assumption) rfl rfl rfl ?_)
              refine xo_nil ?_
              refine xq_seq ?_
              refine xc_region ?_
              refine xo_rd (rd_move rfl) rfl ?_
              refine xo_rd (rd_move rfl) rfl ?_
              refine xo_rd (rd_fieldAddr rfl) rfl ?_
              refine xo_rd (rd_load1 rfl (Cl.o0 rfl)) rfl ?_
              refine xo_rd (rd_convn rfl (by omega) (by omega)) rfl ?_
              refine xo_rd (rd_subn rfl rfl (by omega) (by omega)) rfl ?_
              refine xo_rd (rd_sliceHi rfl rfl (by omega) (by omega)) rfl ?_
              refine xo_rd (rd_assign rfl) rfl ?_
              refine xo_nil ?_
              rotate_left
            iterate 3
              · rw [show takeT b0 b1 k bs f = (21, .zero, []) from by unfold takeT; rw [if_neg (by omega), if_neg hff, if_neg (by omega), if_pos h32, hzg, if_pos (by omega)]]
                exact xq_retB3 (.inl rfl) Try.results47 rfl rfl rfl Kn.o0 rfl (List.sublist_cons_self _ _) (TkM.err 21)
            rw [show ((k : Int) - z).toNat = k - z.toNat from by omega]
            refine xq_joined ((z, k - z.toNat) : Int × Nat) ⟨?_, by dsimp only; omega, hz⟩ rfl (by repeat (first | exact keep_nil | refine keep_cons rfl ?_))
            dsimp only
            unfold takeT
            rw [if_neg (by omega), if_neg hff, if_neg (by omega), if_pos h32, hzg, if_neg (by omega), List.drop_of_length_le (by omega)]
        · focus
            refine xc_seq ?_
            refine xc_region ?_
            refine xo_rd (rd_move rfl) rfl ?_
            refine xo_rd (rd_indexAddr rfl rfl (by omega) (by omega)) rfl ?_
            refine xo_rd (rd_load1 rfl (hcell 0 _ rfl _ (by intro z hz; simp [hz]))) rfl ?_
            refine xo_rd (rd_cast (v' := .int .u8 (b0 / 32 % 2 * 32)) (rd_and rfl rfl) (congrArg (Value.int .u8) (and8_32 b0 g0.1 g0.2))) rfl ?_
            refine xo_rd (rd_neq rfl rfl) rfl ?_
            refine xo_nil ?_
            refine xq_seq ?_
            refine xc_ndec rfl (fun h1 => (by exfalso; omega)) (fun h1 => ?_)
            refine xc_skip ?_
          refine xq_joined ((0, k) : Int × Nat) ⟨?_, Nat.le_refl _, (⟨by decide, by decide⟩ : By 0)⟩ rfl (by repeat (first | exact keep_nil | refine keep_cons rfl ?_))
          dsimp only
          unfold takeT
          rw [if_neg (by omega), if_neg hff, if_neg (by omega), if_neg h32]
      · rintro ⟨pd, n'⟩ ⟨ht, hn, hpd⟩
        dsimp only at ht hn hpd ⊢
        rw [ht]
        have hnl : (bs.take n').length = n' := by rw [List.length_take]; omega
        focus
          refine xc_seq ?_
          refine xc_region ?_
          refine xo_rd (rd_move rfl) rfl ?_
          refine xo_ef rfl (ef_call rfl (XF.mono (xf_clone p1 n' (c - Int.toNat 4) (ints .u8 (bs.take n')) (by rw [ints_len]; omega) ((((hp1 L hr).mono (by intro z hz; simp [hz])).ints_take n')) (ints_one _ _) (by omega)) ?_))
          rintro v L' ⟨q', k', l', rfl, hO, _, rfl⟩
          refine xo_perm List.perm_append_comm ?_
          refine xo_rd (rd_fieldAddr rfl) rfl ?_
          refine xo_ef rfl (ef_store1 [] _ rfl rfl (by first | rfl | assumption) rfl rfl rfl ?_)
          refine xo_nil ?_
          refine xq_seq ?_
          refine xc_seq ?_
          refine xc_region ?_
          refine xo_rd (rd_loadB rfl Kn.o0 (by rfl)) rfl ?_
          refine xo_rd (rd_move rfl) rfl ?_
          refine xo_ef rfl (ef_storeB [] _ rfl rfl (by first | rfl | assumption) rfl rfl rfl ?_)
          refine xo_rd (rd_assign rfl) rfl ?_
          refine xo_rd (rd_assign rfl) rfl ?_
          refine xo_nil ?_
          refine xq_seq ?_
          refine xc_ret ?_
        refine xq_permT [_] (List.perm_append_comm (l₁ := L) (l₂ := l')) ?_
        have hO2 : SlO 1 5 (.slice q' (bs.take n').length k') (bs.take n').length (ints .u8 (bs.take n')) l' := by rw [hnl]; exact hO
        refine xq_retB3 (.inl rfl) Try.results47 rfl rfl rfl Kn.o0 rfl (List.sublist_cons_self _ _) ⟨q', k', l', p2, c - (4 + k), ?_, hO2, hp2, by dsimp only; rw [List.length_drop]; omega, rfl⟩
        dsimp only [Pc.enc]
        rw [hnl, List.length_drop]
        rfl
end Go.Proofs.Ytohlaabclifbfaa.X
