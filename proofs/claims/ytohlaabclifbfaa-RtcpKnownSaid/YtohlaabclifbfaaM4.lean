/-
  Texts of my own, put together: walks and laws for this seat. No condition.
-/
import Derived.Test.YtohlaabclifbfaaM3
/-
  A packet is taken off bytes: a walk of my own.
-/
namespace Go.Proofs.Ytohlaabclifbfaa.X
open Go Go.RowKit
set_option linter.unusedVariables false
set_option linter.unusedSimpArgs false
theorem By.take {l : List Int} (h : ∀ x, x ∈ l → By x) (k : Nat) : ∀ x, x ∈ l.take k → By x := fun x hx => h x (List.mem_of_mem_take hx)
theorem By.drop {l : List Int} (h : ∀ x, x ∈ l → By x) (k : Nat) : ∀ x, x ∈ l.drop k → By x := fun x hx => h x (List.mem_of_mem_drop hx)
theorem Rs.ints_take {W : World} {L : List Blk} {p : Option Addr} {k : IntKind} {xs : List Int} (h : Rs W L p (ints k xs)) (i : Nat) : Rs W L p (ints k (xs.take i)) := by rw [X.ints_take]; exact h.take i
theorem getD_get {l : List Int} {i : Nat} (h : i < l.length) : l.getD i 0 = l[i] := by simp [List.getD_eq_getElem?_getD, h]
theorem ints_snoc (k : IntKind) (l : List Int) (x : Int) : ints k (l ++ [x]) = ints k l ++ [.int k x] := by simp [ints]
theorem perm_end4 (a b c d : List Blk) : (a ++ (b ++ (c ++ d))).Perm (d ++ (a ++ (b ++ c))) := (by classical exact List.perm_iff_count.2 fun a => by simp only [List.append_eq, List.count_append, List.count_cons, List.count_nil, List.cons_append, List.nil_append, List.flatMap_append, List.flatMap_cons, List.flatMap_nil, List.append_nil]; omega)
theorem takeP_short {b : List Int} {f : Bool} (h : b.length < 4) : takeP b f = (10, .zero, []) := by
  rcases b with _ | ⟨a, _ | ⟨b, _ | ⟨c, _ | ⟨d, t⟩⟩⟩⟩
  · rfl
  · rfl
  · rfl
  · rfl
  · simp at h; omega
theorem and8_31 (x : Int) (h0 : 0 ≤ x) (h1 : x ≤ 255) : bits .and .u8 x 31 = x % 32 := u8_ind (p := fun x => bits .and .u8 x 31 = x % 32) (by decide +kernel) x h0 h1
/-- What take answers. -/
def TkM (W : World) (L : List Blk) (p : Option Addr) (bs : List Int) (z : Int × Pc × List Int) (v : Value) (L' : List Blk) : Prop :=
  ∃ p1 c1 l p2 c2, v = .tuple #[.agg (z.2.1.enc (.slice p1 z.2.1.bd.length c1)).toArray, .slice p2 z.2.2.length c2, .int .i64 z.1] ∧ SlO 1 5 (.slice p1 z.2.1.bd.length c1) z.2.1.bd.length (ints .u8 z.2.1.bd) l ∧ (∀ L0, Rs W L0 p (ints .u8 bs) → Rs W L0 p2 (ints .u8 z.2.2)) ∧ z.2.2.length ≤ c2 ∧ L' = l ++ L
theorem TkM.err {W : World} {L : List Blk} {p : Option Addr} {bs : List Int} (e : Int) : TkM W L p bs (e, .zero, []) (.tuple #[.agg (Pc.zero.enc (.slice none 0 0)).toArray, .slice none 0 0, .int .i64 e]) L :=
  ⟨none, 0, [], none, 0, rfl, SlO.nil, fun _ _ => Rs.nil, Nat.le_refl _, rfl⟩
set_option maxHeartbeats 4000000 in
theorem xf_take {W : World} {L : List Blk} (p : Option Addr) (m c : Nat) (bs : List Int) (f : Bool) (hx : bs.length = m) (hr : Rs W L p (ints .u8 bs)) (hb : ∀ x, x ∈ bs → By x) (hc : m ≤ c) (hm : m ≤ 1000000000) :
    XF Try.prog W 47 #[.slice p m c, .bool f] L (TkM W L p bs (takeP bs f)) := by
  refine xf_enter (args := [_, _]) Try.func47 rfl Try.ntmps47 rfl ?_
  by_cases h4 : m < 4
  · rw [takeP_short (by omega)]
    focus
      refine xc_seq ?_
      refine xc_region ?_
      refine xo_ef rfl (ef_alloc fun r4 => ?_)
      refine xo_rd (rd_assign rfl) rfl ?_
      refine xo_rd (rd_assign rfl) rfl ?_
      refine xo_nil ?_
      refine xq_seq ?_
      refine xc_seq ?_
      refine xc_block ?_
      refine xc_seq ?_
      refine xc_region ?_
      refine xo_rd (rd_move rfl) rfl ?_
      refine xo_rd (rd_len rfl) rfl ?_
      refine xo_rd (rd_lss rfl rfl) rfl ?_
      refine xo_rd (rd_assign rfl) rfl ?_
      refine xo_nil ?_
      refine xq_seq ?_
      refine xc_dec rfl (fun h1 => ?_) (fun h1 => (by exfalso; omega))
      refine xc_seq ?_
      refine xc_region ?_
      refine xo_rd (rd_build rfl rfl rfl) rfl ?_
      refine xo_ef rfl (ef_storeB [] _ rfl rfl (by first | rfl | assumption) rfl rfl rfl ?_)
      refine xo_rd (rd_assign rfl) rfl ?_
      refine xo_rd (rd_assign rfl) rfl ?_
      refine xo_nil ?_
      refine xq_seq ?_
      refine xc_ret ?_
      refine xq_block_ret ?_
      refine xq_then_ret ?_
    exact xq_retB3 (.inl rfl) Try.results47 rfl rfl rfl Kn.o0 rfl (List.sublist_cons_self _ _) (TkM.err 10)
  iterate 4
    (rcases bs with _ | ⟨_, bs⟩
     · exact absurd (by simp at hx; omega) h4)
  rename_i b0 b1 b2 b3
  obtain ⟨b, o, rfl, hc0⟩ := hr.int (i := 0) (by simp)
  have hcell : ∀ i z, (b0 :: b1 :: b2 :: b3 :: bs)[i]? = some z → ∀ L', (∀ z, z ∈ L → z ∈ L') → Cl W L' b (o + i * 1) (.int .u8 z) := fun i z hz L' hL' => by
    obtain ⟨hi, rfl⟩ := List.getElem?_eq_some_iff.1 hz
    obtain ⟨b', o', he, hci⟩ := (hr.mono hL').int hi
    simp only [Option.some.injEq, Addr.mk.injEq, and_true] at he
    obtain ⟨rfl, rfl⟩ := he
    exact hci
  have g0 := hb b0 (by simp); have g1 := hb b1 (by simp); have g2 := hb b2 (by simp); have g3 := hb b3 (by simp)
  unfold By at g0 g1 g2 g3
  obtain ⟨k, hk⟩ : ∃ k : Nat, k = (4 * vl [b2, b3]).toNat := ⟨_, rfl⟩
  have hkv : (k : Int) = 4 * (b2 * 256 + b3) := by rw [hk]; simp only [vl, List.foldl]; omega
  show XC Try.prog W _ _ (bodyPost _ _ (XP W (TkM W L _ _ (takeT b0 b1 (4 * vl [b2, b3]).toNat bs f)))) L _
  rw [← hk]
  obtain ⟨fb, hfb⟩ : ∃ fb, isFirst b1 = fb := ⟨_, rfl⟩
  have hmb : bs.length + 4 = m := by simpa using hx
  have hkb : k ≤ 262140 := by omega
  focus
    refine xc_seq ?_
    refine xc_region ?_
    refine xo_ef rfl (ef_alloc fun r4 => ?_)
    refine xo_rd (rd_assign rfl) rfl ?_
    refine xo_rd (rd_assign rfl) rfl ?_
    refine xo_nil ?_
    refine xq_seq ?_
  refine xc_join (ι := Unit) (fun _ => b0 / 64 = 2 ∧ ¬ (f = true ∧ isFirst b1 = false)) (fun _ => (r4, .cells #[.int .u8 0, .int .u8 0, .slice none 0 0, .int .u8 0] 35 (0, 0)) :: L) (fun _ => [(0, .slice (some ⟨b, o, none⟩) m c), (4, .pointer (some ⟨r4, 0, none⟩))]) ?_ ?_
  · focus
      refine xc_block ?_
      refine xc_seq ?_
      refine xc_region ?_
      refine xo_rd (rd_move rfl) rfl ?_
      refine xo_rd (rd_len rfl) rfl ?_
      refine xo_rd (rd_lss rfl rfl) rfl ?_
      refine xo_rd (rd_assign rfl) rfl ?_
      refine xo_nil ?_
      refine xq_seq ?_
      refine xc_dec rfl (fun hq1 => (by exfalso; omega)) (fun hq1 => ?_)
      refine xc_seq ?_
      refine xc_region ?_
      refine xo_rd (rd_move rfl) rfl ?_
      refine xo_rd (rd_indexAddr rfl rfl (by omega) (by omega)) rfl ?_
      refine xo_rd (rd_load1 rfl (hcell 0 _ rfl _ (by intro z hz; simp [hz]))) rfl ?_
      refine xo_rd (rd_cast (v' := .int .u8 (b0 / 64)) (rd_shr rfl rfl (by decide) (by decide)) rfl) rfl ?_
      refine xo_rd (rd_neq rfl rfl) rfl ?_
      refine xo_rd (rd_assign rfl) rfl ?_
      refine xo_nil ?_
      refine xq_seq ?_
      refine xc_ndec rfl (fun hq2 => ?_) (fun hq2 => ?_)
      refine xc_seq ?_
      refine xc_region ?_
      refine xo_rd (rd_build rfl rfl rfl) rfl ?_
      refine xo_ef rfl (ef_storeB [] _ rfl rfl (by first | rfl | assumption) rfl rfl rfl ?_)
      refine xo_rd (rd_assign rfl) rfl ?_
      refine xo_rd (rd_assign rfl) rfl ?_
      refine xo_nil ?_
      refine xq_seq ?_
      refine xc_ret ?_
      refine xq_block_ret ?_
      refine xq_then_ret ?_
      rotate_left
      refine xc_seq ?_
      refine xc_region ?_
      refine xo_rd (rd_move rfl) rfl ?_
      refine xo_rd (rd_move rfl) rfl ?_
      refine xo_split 24 rfl (fun hq3 => ?_) (fun hq3 => ?_)
      refine xo_grd rfl rfl (rd_move rfl) rfl ?_
      refine xo_grd rfl rfl (rd_indexAddr rfl rfl (by omega) (by omega)) rfl ?_
      refine xo_grd rfl rfl (rd_load1 rfl (hcell 1 _ rfl _ (by intro z hz; simp [hz]))) rfl ?_
      refine xo_gef rfl rfl rfl (ef_call rfl (XF.mono (xf_isFirst b1 fb hfb) ?_))
      rintro v L' ⟨rfl, rfl⟩
      refine xo_grd rfl rfl (rd_not rfl) rfl ?_
      refine xo_rd (rd_pickt rfl rfl) rfl ?_
      refine xo_rd (rd_assign rfl) rfl ?_
      refine xo_nil ?_
      refine xq_seq ?_
      refine xc_cond rfl (fun hq4 => ?_) (fun hq4 => ?_)
      refine xc_seq ?_
      refine xc_region ?_
      refine xo_rd (rd_build rfl rfl rfl) rfl ?_
      refine xo_ef rfl (ef_storeB [] _ rfl rfl (by first | rfl | assumption) rfl rfl rfl ?_)
      refine xo_rd (rd_assign rfl) rfl ?_
      refine xo_rd (rd_assign rfl) rfl ?_
      refine xo_nil ?_
      refine xq_seq ?_
      refine xc_ret ?_
      refine xq_block_ret ?_
      refine xq_then_ret ?_
      rotate_left
      refine xc_skip ?_
      refine xq_block ?_
      rotate_left
      refine xo_gskip rfl rfl rfl rfl ?_
      refine xo_gskip rfl rfl rfl rfl ?_
      refine xo_gskip rfl rfl rfl rfl ?_
      refine xo_gskip rfl rfl rfl rfl ?_
      refine xo_gskip rfl rfl rfl rfl ?_
      refine xo_rd (rd_pickf rfl rfl) rfl ?_
      refine xo_rd (rd_assign rfl) rfl ?_
      refine xo_nil ?_
      refine xq_seq ?_
      refine xc_condf rfl ?_
      refine xc_skip ?_
      refine xq_block ?_
      rotate_left
    · rw [show takeT b0 b1 k bs f = (20, .zero, []) from by unfold takeT; rw [if_pos hq2]]
      exact xq_retB3 (.inl rfl) Try.results47 rfl rfl rfl Kn.o0 rfl (List.sublist_cons_self _ _) (TkM.err 20)
    · have e1 : isFirst b1 = false := by rw [hfb]; simpa using hq4
      rw [show takeT b0 b1 k bs f = (60, .zero, []) from by unfold takeT; rw [if_neg (by omega), if_pos ⟨hq3, e1⟩]]
      exact xq_retB3 (.inl rfl) Try.results47 rfl rfl rfl Kn.o0 rfl (List.sublist_cons_self _ _) (TkM.err 60)
    · have e1 : isFirst b1 = true := by rw [hfb]; simpa using hq4
      exact xq_joined () ⟨hq2, fun h => by rw [e1] at h; exact absurd h.2 (by decide)⟩ rfl (by repeat (first | exact keep_nil | refine keep_cons rfl ?_))
    · exact xq_joined () ⟨hq2, fun h => by rw [hq3] at h; exact absurd h.1 (by decide)⟩ rfl (by repeat (first | exact keep_nil | refine keep_cons rfl ?_))
  · rintro _ ⟨h64, hff⟩
    focus
      refine xc_seq ?_
      refine xc_drawM [0, 1, 2, 4, 8, 16, 0, 64, 128, 256, 544, 1024, 4095] [0, 1, 2, 4, 8, 16, 0, 64, 128, 256, 544, 1024, 4095] (L) (by kernel_rfl) (by kernel_rfl) (by kernel_rfl) ?_
      refine xm_take 0 (m' := 1) rfl (by kernel_rfl) (by first | exact Sb.refl | exact Sb.nil | (repeat (first | exact Sb.nil | exact Sb.refl | exact Sb.app0 | apply Sb.keep | apply Sb.keepApp | apply Sb.cons | apply Sb.app))) (rd_move rfl) rfl (by kernel_rfl) ?_
      refine xm_take 1 (m' := 3) rfl (by kernel_rfl) (by first | exact Sb.refl | exact Sb.nil | (repeat (first | exact Sb.nil | exact Sb.refl | exact Sb.app0 | apply Sb.keep | apply Sb.keepApp | apply Sb.cons | apply Sb.app))) (rd_indexAddr rfl rfl (by omega) (by omega)) rfl (by kernel_rfl) ?_
      refine xm_take 2 (m' := 7) rfl (by kernel_rfl) (by first | exact Sb.refl | exact Sb.nil | (repeat (first | exact Sb.nil | exact Sb.refl | exact Sb.app0 | apply Sb.keep | apply Sb.keepApp | apply Sb.cons | apply Sb.app))) (rd_load1 rfl (hcell 2 _ rfl _ (by intro z hz; simp [hz]))) rfl (by kernel_rfl) ?_
      refine xm_take 3 (m' := 15) rfl (by kernel_rfl) (by first | exact Sb.refl | exact Sb.nil | (repeat (first | exact Sb.nil | exact Sb.refl | exact Sb.app0 | apply Sb.keep | apply Sb.keepApp | apply Sb.cons | apply Sb.app))) (rd_convn rfl (by omega) (by omega)) rfl (by kernel_rfl) ?_
      refine xm_take 4 (m' := 31) rfl (by kernel_rfl) (by first | exact Sb.refl | exact Sb.nil | (repeat (first | exact Sb.nil | exact Sb.refl | exact Sb.app0 | apply Sb.keep | apply Sb.keepApp | apply Sb.cons | apply Sb.app))) (rd_cast (v' := .int .i64 (b2 * 256)) (rd_shl rfl rfl (by decide) (by decide)) (congrArg (Value.int .i64) (show IntKind.i64.wrap (b2 * 256) = b2 * 256 from KB.h _ (by omega) (by omega)))) rfl (by kernel_rfl) ?_
      refine xm_take 5 (m' := 63) rfl (by kernel_rfl) (by first | exact Sb.refl | exact Sb.nil | (repeat (first | exact Sb.nil | exact Sb.refl | exact Sb.app0 | apply Sb.keep | apply Sb.keepApp | apply Sb.cons | apply Sb.app))) (rd_addn rfl rfl (by omega) (by omega)) rfl (by kernel_rfl) ?_
      refine xm_take 6 (m' := 127) rfl (by kernel_rfl) (by first | exact Sb.refl | exact Sb.nil | (repeat (first | exact Sb.nil | exact Sb.refl | exact Sb.app0 | apply Sb.keep | apply Sb.keepApp | apply Sb.cons | apply Sb.app))) (rd_move rfl) rfl (by kernel_rfl) ?_
      refine xm_take 7 (m' := 255) rfl (by kernel_rfl) (by first | exact Sb.refl | exact Sb.nil | (repeat (first | exact Sb.nil | exact Sb.refl | exact Sb.app0 | apply Sb.keep | apply Sb.keepApp | apply Sb.cons | apply Sb.app))) (rd_indexAddr rfl rfl (by omega) (by omega)) rfl (by kernel_rfl) ?_
      refine xm_take 8 (m' := 511) rfl (by kernel_rfl) (by first | exact Sb.refl | exact Sb.nil | (repeat (first | exact Sb.nil | exact Sb.refl | exact Sb.app0 | apply Sb.keep | apply Sb.keepApp | apply Sb.cons | apply Sb.app))) (rd_load1 rfl (hcell 3 _ rfl _ (by intro z hz; simp [hz]))) rfl (by kernel_rfl) ?_
      refine xm_take 9 (m' := 1023) rfl (by kernel_rfl) (by first | exact Sb.refl | exact Sb.nil | (repeat (first | exact Sb.nil | exact Sb.refl | exact Sb.app0 | apply Sb.keep | apply Sb.keepApp | apply Sb.cons | apply Sb.app))) (rd_convn rfl (by omega) (by omega)) rfl (by kernel_rfl) ?_
      refine xm_take 10 (m' := 2047) rfl (by kernel_rfl) (by first | exact Sb.refl | exact Sb.nil | (repeat (first | exact Sb.nil | exact Sb.refl | exact Sb.app0 | apply Sb.keep | apply Sb.keepApp | apply Sb.cons | apply Sb.app))) (rd_addn rfl rfl (by omega) (by omega)) rfl (by kernel_rfl) ?_
      refine xm_take 11 (m' := 4095) rfl (by kernel_rfl) (by first | exact Sb.refl | exact Sb.nil | (repeat (first | exact Sb.nil | exact Sb.refl | exact Sb.app0 | apply Sb.keep | apply Sb.keepApp | apply Sb.cons | apply Sb.app))) (rd_muln rfl rfl (by omega) (by omega)) rfl (by kernel_rfl) ?_
      refine xm_take 12 (m' := 8191) rfl (by kernel_rfl) (by first | exact Sb.refl | exact Sb.nil | (repeat (first | exact Sb.nil | exact Sb.refl | exact Sb.app0 | apply Sb.keep | apply Sb.keepApp | apply Sb.cons | apply Sb.app))) (rd_assign rfl) rfl (by kernel_rfl) ?_
      refine xm_done (by kernel_rfl) ?_
      refine xq_seq ?_
      refine xc_seq ?_
      refine xc_seq ?_
      refine xc_region ?_
      refine xo_rd (rd_move rfl) rfl ?_
      refine xo_rd (rd_move rfl) rfl ?_
      refine xo_rd (rd_len rfl) rfl ?_
      refine xo_rd (rd_gtr rfl rfl) rfl ?_
      refine xo_nil ?_
      refine xq_seq ?_
      refine xc_dec rfl (fun hq1 => ?_) (fun hq1 => ?_)
      refine xc_seq ?_
      refine xc_region ?_
      refine xo_rd (rd_build rfl rfl rfl) rfl ?_
      refine xo_ef rfl (ef_storeB [] _ rfl rfl (by first | rfl | assumption) rfl rfl rfl ?_)
      refine xo_rd (rd_assign rfl) rfl ?_
      refine xo_rd (rd_assign rfl) rfl ?_
      refine xo_nil ?_
      refine xq_seq ?_
      refine xc_ret ?_
      refine xq_then_ret ?_
      rotate_left
      refine xc_skip ?_
      refine xq_seq ?_
      rotate_left
    · rw [show takeT b0 b1 k bs f = (61, .zero, []) from by unfold takeT; rw [if_neg (by omega), if_neg hff, if_pos (by omega)]]
      exact xq_retB3 (.inl rfl) Try.results47 rfl rfl rfl Kn.o0 rfl (List.sublist_cons_self _ _) (TkM.err 61)
    · focus
        refine xc_seq ?_
        refine xc_drawM [0, 1, 2, 4, 0, 16, 32, 72, 255] [0, 1, 2, 4, 0, 16, 32, 72, 255] (L) (by kernel_rfl) (by kernel_rfl) (by kernel_rfl) ?_
        refine xm_take 0 (m' := 1) rfl (by kernel_rfl) (by first | exact Sb.refl | exact Sb.nil | (repeat (first | exact Sb.nil | exact Sb.refl | exact Sb.app0 | apply Sb.keep | apply Sb.keepApp | apply Sb.cons | apply Sb.app))) (rd_move rfl) rfl (by kernel_rfl) ?_
        refine xm_take 1 (m' := 3) rfl (by kernel_rfl) (by first | exact Sb.refl | exact Sb.nil | (repeat (first | exact Sb.nil | exact Sb.refl | exact Sb.app0 | apply Sb.keep | apply Sb.keepApp | apply Sb.cons | apply Sb.app))) (rd_indexAddr rfl rfl (by omega) (by omega)) rfl (by kernel_rfl) ?_
        refine xm_take 2 (m' := 7) rfl (by kernel_rfl) (by first | exact Sb.refl | exact Sb.nil | (repeat (first | exact Sb.nil | exact Sb.refl | exact Sb.app0 | apply Sb.keep | apply Sb.keepApp | apply Sb.cons | apply Sb.app))) (rd_load1 rfl (hcell 0 _ rfl _ (by intro z hz; simp [hz]))) rfl (by kernel_rfl) ?_
        refine xm_take 3 (m' := 15) rfl (by kernel_rfl) (by first | exact Sb.refl | exact Sb.nil | (repeat (first | exact Sb.nil | exact Sb.refl | exact Sb.app0 | apply Sb.keep | apply Sb.keepApp | apply Sb.cons | apply Sb.app))) (rd_cast (v' := .int .u8 (b0 % 32)) (rd_and rfl rfl) (congrArg (Value.int .u8) (and8_31 b0 g0.1 g0.2))) rfl (by kernel_rfl) ?_
        refine xm_take 4 (m' := 31) rfl (by kernel_rfl) (by first | exact Sb.refl | exact Sb.nil | (repeat (first | exact Sb.nil | exact Sb.refl | exact Sb.app0 | apply Sb.keep | apply Sb.keepApp | apply Sb.cons | apply Sb.app))) (rd_move rfl) rfl (by kernel_rfl) ?_
        refine xm_take 5 (m' := 63) rfl (by kernel_rfl) (by first | exact Sb.refl | exact Sb.nil | (repeat (first | exact Sb.nil | exact Sb.refl | exact Sb.app0 | apply Sb.keep | apply Sb.keepApp | apply Sb.cons | apply Sb.app))) (rd_indexAddr rfl rfl (by omega) (by omega)) rfl (by kernel_rfl) ?_
        refine xm_take 6 (m' := 127) rfl (by kernel_rfl) (by first | exact Sb.refl | exact Sb.nil | (repeat (first | exact Sb.nil | exact Sb.refl | exact Sb.app0 | apply Sb.keep | apply Sb.keepApp | apply Sb.cons | apply Sb.app))) (rd_load1 rfl (hcell 1 _ rfl _ (by intro z hz; simp [hz]))) rfl (by kernel_rfl) ?_
        refine xm_take 7 (m' := 255) rfl (by kernel_rfl) (by first | exact Sb.refl | exact Sb.nil | (repeat (first | exact Sb.nil | exact Sb.refl | exact Sb.app0 | apply Sb.keep | apply Sb.keepApp | apply Sb.cons | apply Sb.app))) (rd_build rfl rfl rfl) rfl (by kernel_rfl) ?_
        refine xm_one 8 (m' := 511) rfl (by kernel_rfl) rfl (by kernel_rfl) (ef_storeB [] _ rfl rfl (by first | rfl | assumption) rfl rfl rfl ?_)
        refine ⟨(by first | exact Sb.refl | exact Sb.nil | (repeat (first | exact Sb.nil | exact Sb.refl | exact Sb.app0 | apply Sb.keep | apply Sb.keepApp | apply Sb.cons | apply Sb.app))), ?_⟩
        refine xm_done (by kernel_rfl) ?_
        refine xq_seq ?_
        refine xc_seq ?_
        refine xc_drawM [0, 0, 3, 0, 0, 24, 7, 127] [0, 0, 3, 0, 0, 24, 7, 127] (L) (by kernel_rfl) (by kernel_rfl) (by kernel_rfl) ?_
        refine xm_take 0 (m' := 1) rfl (by kernel_rfl) (by first | exact Sb.refl | exact Sb.nil | (repeat (first | exact Sb.nil | exact Sb.refl | exact Sb.app0 | apply Sb.keep | apply Sb.keepApp | apply Sb.cons | apply Sb.app))) (rd_move rfl) rfl (by kernel_rfl) ?_
        refine xm_take 1 (m' := 3) rfl (by kernel_rfl) (by first | exact Sb.refl | exact Sb.nil | (repeat (first | exact Sb.nil | exact Sb.refl | exact Sb.app0 | apply Sb.keep | apply Sb.keepApp | apply Sb.cons | apply Sb.app))) (rd_move rfl) rfl (by kernel_rfl) ?_
        refine xm_take 2 (m' := 7) rfl (by kernel_rfl) (by first | exact Sb.refl | exact Sb.nil | (repeat (first | exact Sb.nil | exact Sb.refl | exact Sb.app0 | apply Sb.keep | apply Sb.keepApp | apply Sb.cons | apply Sb.app))) (rd_slLH rfl rfl rfl (by omega) (by omega) (by omega)) rfl (by kernel_rfl) ?_
        refine xm_take 3 (m' := 15) rfl (by kernel_rfl) (by first | exact Sb.refl | exact Sb.nil | (repeat (first | exact Sb.nil | exact Sb.refl | exact Sb.app0 | apply Sb.keep | apply Sb.keepApp | apply Sb.cons | apply Sb.app))) (rd_move rfl) rfl (by kernel_rfl) ?_
        refine xm_take 4 (m' := 31) rfl (by kernel_rfl) (by first | exact Sb.refl | exact Sb.nil | (repeat (first | exact Sb.nil | exact Sb.refl | exact Sb.app0 | apply Sb.keep | apply Sb.keepApp | apply Sb.cons | apply Sb.app))) (rd_move rfl) rfl (by kernel_rfl) ?_
        refine xm_take 5 (m' := 63) rfl (by kernel_rfl) (by first | exact Sb.refl | exact Sb.nil | (repeat (first | exact Sb.nil | exact Sb.refl | exact Sb.app0 | apply Sb.keep | apply Sb.keepApp | apply Sb.cons | apply Sb.app))) (rd_slLo rfl rfl (by omega) (by omega)) rfl (by kernel_rfl) ?_
        refine xm_take 6 (m' := 127) rfl (by kernel_rfl) (by first | exact Sb.refl | exact Sb.nil | (repeat (first | exact Sb.nil | exact Sb.refl | exact Sb.app0 | apply Sb.keep | apply Sb.keepApp | apply Sb.cons | apply Sb.app))) (rd_assign rfl) rfl (by kernel_rfl) ?_
        refine xm_take 7 (m' := 255) rfl (by kernel_rfl) (by first | exact Sb.refl | exact Sb.nil | (repeat (first | exact Sb.nil | exact Sb.refl | exact Sb.app0 | apply Sb.keep | apply Sb.keepApp | apply Sb.cons | apply Sb.app))) (rd_assign rfl) rfl (by kernel_rfl) ?_
        refine xm_done (by kernel_rfl) ?_
        refine xq_seq ?_
      have hE : (4 * (1 + b2 * 256 + b3)).toNat = 4 + k := by omega
      have hE1 : 4 + k - Int.toNat 4 = k := Nat.add_sub_cancel_left 4 k
      have hE2 : m - (4 + k) = bs.length - k := by omega
      rw [hE, hE1, hE2]
      have hp1 : ∀ L0, Rs W L0 (some ⟨b, o, none⟩) (ints .u8 (b0 :: b1 :: b2 :: b3 :: bs)) → Rs W L0 (slp (some ⟨b, o, none⟩) c (Int.toNat 4) 1) (ints .u8 bs) := fun L0 h => h.slp c 4 (by rw [ints_len]; omega)
      have hp2 : ∀ L0, Rs W L0 (some ⟨b, o, none⟩) (ints .u8 (b0 :: b1 :: b2 :: b3 :: bs)) → Rs W L0 (slp (some ⟨b, o, none⟩) c (4 + k) 1) (ints .u8 (bs.drop k)) := fun L0 h => by
        have := h.slp c (4 + k) (by rw [ints_len]; omega)
        rwa [← ints_drop, show (b0 :: b1 :: b2 :: b3 :: bs).drop (4 + k) = bs.drop k from by rw [Nat.add_comm]; rfl] at this
      generalize slp (some ⟨b, o, none⟩) c (Int.toNat 4) 1 = p1 at *
      generalize slp (some ⟨b, o, none⟩) c (4 + k) 1 = p2 at *
      have hkl : k ≤ bs.length := by omega
      refine xc_join (ι := Int × Nat) (fun s => takeT b0 b1 k bs f = (0, ⟨b0 % 32, b1, bs.take s.2, s.1⟩, bs.drop k) ∧ s.2 ≤ k ∧ By s.1) (fun s => (r4, .cells #[.int .u8 (b0 % 32), .int .u8 b1, .slice none 0 0, .int .u8 s.1] 35 (0, 0)) :: L) (fun s => [(4, .pointer (some ⟨r4, 0, none⟩)), (5, .slice p2 (bs.length - k) (c - (4 + k))), (8, .slice p1 s.2 (c - Int.toNat 4))]) ?_ ?_
      · skip
        by_cases h32 : b0 / 32 % 2 = 1
        · by_cases hk0 : k = 0 ∨ k < bs.length
          · focus
              refine xc_seq ?_
              refine xc_region ?_
              refine xo_rd (rd_move rfl) rfl ?_
              refine xo_rd (rd_indexAddr rfl rfl (by omega) (by omega)) rfl ?_
              refine xo_rd (rd_load1 rfl (hcell 0 _ rfl _ (by intro z hz; simp [hz]))) rfl ?_
              refine xo_rd (rd_cast (v' := .int .u8 (b0 / 32 % 2 * 32)) (rd_and rfl rfl) (congrArg (Value.int .u8) (and8_32 b0 g0.1 g0.2))) rfl ?_
              refine xo_rd (rd_neq rfl rfl) rfl ?_
              refine xo_nil ?_
              refine xq_seq ?_
              refine xc_ndec rfl (fun h1 => ?_) (fun h1 => (by exfalso; omega))
              refine xc_seq ?_
              refine xc_region ?_
              refine xo_rd (rd_move rfl) rfl ?_
              refine xo_rd (rd_len rfl) rfl ?_
              refine xo_rd (rd_assign rfl) rfl ?_
              refine xo_nil ?_
              refine xq_seq ?_
              refine xc_seq ?_
              refine xc_seq ?_
              refine xc_region ?_
              refine xo_rd (rd_move rfl) rfl ?_
              refine xo_rd (rd_len rfl) rfl ?_
              refine xo_rd (rd_gtr rfl rfl) rfl ?_
              refine xo_rd (rd_move rfl) rfl ?_
              refine xo_dec 73 rfl (fun h2 => ?_) (fun h2 => ?_)
              refine xo_gskip rfl rfl rfl rfl ?_
              refine xo_gskip rfl rfl rfl rfl ?_
              refine xo_rd (rd_pickt rfl rfl) rfl ?_
              refine xo_rd (rd_move rfl) rfl ?_
              refine xo_gskip rfl rfl rfl rfl ?_
              refine xo_gskip rfl rfl rfl rfl ?_
              refine xo_gskip rfl rfl rfl rfl ?_
              refine xo_gskip rfl rfl rfl rfl ?_
              refine xo_gskip rfl rfl rfl rfl ?_
              refine xo_gskip rfl rfl rfl rfl ?_
              refine xo_rd (rd_pickt rfl rfl) rfl ?_
              refine xo_rd (rd_move rfl) rfl ?_
              refine xo_gskip rfl rfl rfl rfl ?_
              refine xo_gskip rfl rfl rfl rfl ?_
              refine xo_gskip rfl rfl rfl rfl ?_
              refine xo_gskip rfl rfl rfl rfl ?_
              refine xo_gskip rfl rfl rfl rfl ?_
              refine xo_gskip rfl rfl rfl rfl ?_
              refine xo_gskip rfl rfl rfl rfl ?_
              refine xo_rd (rd_pickt rfl rfl) rfl ?_
              refine xo_rd (rd_move rfl) rfl ?_
              refine xo_gskip rfl rfl rfl rfl ?_
              refine xo_gskip rfl rfl rfl rfl ?_
              refine xo_gskip rfl rfl rfl rfl ?_
              refine xo_gskip rfl rfl rfl rfl ?_
              refine xo_gskip rfl rfl rfl rfl ?_
              refine xo_gskip rfl rfl rfl rfl ?_
              refine xo_gskip rfl rfl rfl rfl ?_
              refine xo_gskip rfl rfl rfl rfl ?_
              refine xo_rd (rd_pickt rfl rfl) rfl ?_
              refine xo_nil ?_
              refine xq_seq ?_
              refine xc_condt rfl ?_
              refine xc_seq ?_
              refine xc_region ?_
              refine xo_rd (rd_build rfl rfl rfl) rfl ?_
              refine xo_ef rfl (ef_storeB [] _ rfl rfl (by first | rfl | assumption) rfl rfl rfl ?_)
              refine xo_rd (rd_assign rfl) rfl ?_
              refine xo_rd (rd_assign rfl) rfl ?_
              refine xo_nil ?_
              refine xq_seq ?_
              refine xc_ret ?_
              refine xq_then_ret ?_
              refine xq_then_ret ?_
              rotate_left
              refine xo_grd rfl rfl (rd_move rfl) rfl ?_
              refine xo_grd rfl rfl (rd_eql rfl rfl) rfl ?_
              refine xo_rd (rd_pickf rfl rfl) rfl ?_
              refine xo_rd (rd_move rfl) rfl ?_
              refine xo_dec 77 rfl (fun h3 => ?_) (fun h3 => (by exfalso; omega))
              refine xo_gskip rfl rfl rfl rfl ?_
              refine xo_gskip rfl rfl rfl rfl ?_
              refine xo_gskip rfl rfl rfl rfl ?_
              refine xo_gskip rfl rfl rfl rfl ?_
              refine xo_gskip rfl rfl rfl rfl ?_
              refine xo_gskip rfl rfl rfl rfl ?_
              refine xo_rd (rd_pickt rfl rfl) rfl ?_
              refine xo_rd (rd_move rfl) rfl ?_
              refine xo_gskip rfl rfl rfl rfl ?_
              refine xo_gskip rfl rfl rfl rfl ?_
              refine xo_gskip rfl rfl rfl rfl ?_
              refine xo_gskip rfl rfl rfl rfl ?_
              refine xo_gskip rfl rfl rfl rfl ?_
              refine xo_gskip rfl rfl rfl rfl ?_
              refine xo_gskip rfl rfl rfl rfl ?_
              refine xo_rd (rd_pickt rfl rfl) rfl ?_
              refine xo_rd (rd_move rfl) rfl ?_
              refine xo_gskip rfl rfl rfl rfl ?_
              refine xo_gskip rfl rfl rfl rfl ?_
              refine xo_gskip rfl rfl rfl rfl ?_
              refine xo_gskip rfl rfl rfl rfl ?_
              refine xo_gskip rfl rfl rfl rfl ?_
              refine xo_gskip rfl rfl rfl rfl ?_
              refine xo_gskip rfl rfl rfl rfl ?_
              refine xo_gskip rfl rfl rfl rfl ?_
              refine xo_rd (rd_pickt rfl rfl) rfl ?_
              refine xo_nil ?_
              refine xq_seq ?_
              refine xc_condt rfl ?_
              refine xc_seq ?_
              refine xc_region ?_
              refine xo_rd (rd_build rfl rfl rfl) rfl ?_
              refine xo_ef rfl (ef_storeB [] _ rfl rfl (by first | rfl | assumption) rfl rfl rfl ?_)
              refine xo_rd (rd_assign rfl) rfl ?_
              refine xo_rd (rd_assign rfl) rfl ?_
              refine xo_nil ?_
              refine xq_seq ?_
              refine xc_ret ?_
              refine xq_then_ret ?_
              refine xq_then_ret ?_
              rotate_left
            all_goals rw [show takeT b0 b1 k bs f = (21, .zero, []) from by unfold takeT; rw [if_neg (by omega), if_neg hff, if_neg (by omega), if_pos h32, if_pos (by rcases hk0 with h | h; exact .inr (.inl h); exact .inl h)]]
            all_goals exact xq_retB3 (.inl rfl) Try.results47 rfl rfl rfl Kn.o0 rfl (List.sublist_cons_self _ _) (TkM.err 21)
          · obtain ⟨bb, oo, hpp, hcz⟩ := (hp1 L hr).int (i := k - 1) (by omega)
            have hz := hb bs[k - 1] (by simp)
            have hzg : bs.getD (k - 1) 0 = bs[k - 1] := getD_get (by omega)
            generalize bs[k - 1] = z at *
            unfold By at hz
            have hcz' : ∀ L', (∀ z, z ∈ L → z ∈ L') → Cl W L' bb (oo + ((k : Int) - 1).toNat * 1) (.int .u8 z) := fun L' h => by
              rw [show ((k : Int) - 1).toNat = k - 1 from by omega]; exact hcz.mono h
            subst hpp
            focus
              refine xc_seq ?_
              refine xc_region ?_
              refine xo_rd (rd_move rfl) rfl ?_
              refine xo_rd (rd_indexAddr rfl rfl (by omega) (by omega)) rfl ?_
              refine xo_rd (rd_load1 rfl (hcell 0 _ rfl _ (by intro z hz; simp [hz]))) rfl ?_
              refine xo_rd (rd_cast (v' := .int .u8 (b0 / 32 % 2 * 32)) (rd_and rfl rfl) (congrArg (Value.int .u8) (and8_32 b0 g0.1 g0.2))) rfl ?_
              refine xo_rd (rd_neq rfl rfl) rfl ?_
              refine xo_nil ?_
              refine xq_seq ?_
              refine xc_ndec rfl (fun hw1 => ?_) (fun hw1 => (by exfalso; omega))
              refine xc_seq ?_
              refine xc_region ?_
              refine xo_rd (rd_move rfl) rfl ?_
              refine xo_rd (rd_len rfl) rfl ?_
              refine xo_rd (rd_assign rfl) rfl ?_
              refine xo_nil ?_
              refine xq_seq ?_
              refine xc_seq ?_
              refine xc_seq ?_
              refine xc_region ?_
              refine xo_rd (rd_move rfl) rfl ?_
              refine xo_rd (rd_len rfl) rfl ?_
              refine xo_rd (rd_gtr rfl rfl) rfl ?_
              refine xo_rd (rd_move rfl) rfl ?_
              refine xo_dec 73 rfl (fun hw2 => (by exfalso; omega)) (fun hw2 => ?_)
              refine xo_grd rfl rfl (rd_move rfl) rfl ?_
              refine xo_grd rfl rfl (rd_eql rfl rfl) rfl ?_
              refine xo_rd (rd_pickf rfl rfl) rfl ?_
              refine xo_rd (rd_move rfl) rfl ?_
              refine xo_dec 77 rfl (fun hw3 => (by exfalso; omega)) (fun hw3 => ?_)
              refine xo_grd rfl rfl (rd_move rfl) rfl ?_
              refine xo_grd rfl rfl (rd_move rfl) rfl ?_
              refine xo_grd rfl rfl (rd_subn rfl rfl (by omega) (by omega)) rfl ?_
              refine xo_grd rfl rfl (rd_indexAddr rfl rfl (by omega) (by omega)) rfl ?_
              refine xo_grd rfl rfl (rd_load1 rfl (hcz' _ (by intro z hz; simp [hz]))) rfl ?_
              refine xo_grd rfl rfl (rd_eql rfl rfl) rfl ?_
              refine xo_rd (rd_pickf rfl rfl) rfl ?_
              refine xo_rd (rd_move rfl) rfl ?_
              refine xo_dec 85 rfl (fun hw4 => ?_) (fun hw4 => ?_)
              refine xo_gskip rfl rfl rfl rfl ?_
              refine xo_gskip rfl rfl rfl rfl ?_
              refine xo_gskip rfl rfl rfl rfl ?_
              refine xo_gskip rfl rfl rfl rfl ?_
              refine xo_gskip rfl rfl rfl rfl ?_
              refine xo_gskip rfl rfl rfl rfl ?_
              refine xo_gskip rfl rfl rfl rfl ?_
              refine xo_rd (rd_pickt rfl rfl) rfl ?_
              refine xo_rd (rd_move rfl) rfl ?_
              refine xo_gskip rfl rfl rfl rfl ?_
              refine xo_gskip rfl rfl rfl rfl ?_
              refine xo_gskip rfl rfl rfl rfl ?_
              refine xo_gskip rfl rfl rfl rfl ?_
              refine xo_gskip rfl rfl rfl rfl ?_
              refine xo_gskip rfl rfl rfl rfl ?_
              refine xo_gskip rfl rfl rfl rfl ?_
              refine xo_gskip rfl rfl rfl rfl ?_
              refine xo_rd (rd_pickt rfl rfl) rfl ?_
              refine xo_nil ?_
              refine xq_seq ?_
              refine xc_condt rfl ?_
              refine xc_seq ?_
              refine xc_region ?_
              refine xo_rd (rd_build rfl rfl rfl) rfl ?_
              refine xo_ef rfl (ef_storeB [] _ rfl rfl (by first | rfl | assumption) rfl rfl rfl ?_)
              refine xo_rd (rd_assign rfl) rfl ?_
              refine xo_rd (rd_assign rfl) rfl ?_
              refine xo_nil ?_
              refine xq_seq ?_
              refine xc_ret ?_
              refine xq_then_ret ?_
              refine xq_then_ret ?_
              rotate_left
              refine xo_grd rfl rfl (rd_move rfl) rfl ?_
              refine xo_grd rfl rfl (rd_move rfl) rfl ?_
              refine xo_grd rfl rfl (rd_subn rfl rfl (by omega) (by omega)) rfl ?_
              refine xo_grd rfl rfl (rd_indexAddr rfl rfl (by omega) (by omega)) rfl ?_
              refine xo_grd rfl rfl (rd_load1 rfl (hcz' _ (by intro z hz; simp [hz]))) rfl ?_
              refine xo_grd rfl rfl (rd_remn rfl rfl (by omega) (by omega)) rfl ?_
              refine xo_grd rfl rfl (rd_neq rfl rfl) rfl ?_
              refine xo_rd (rd_pickf rfl rfl) rfl ?_
              refine xo_rd (rd_move rfl) rfl ?_
              refine xo_ndec 94 rfl (fun hw5 => ?_) (fun hw5 => ?_)
              refine xo_gskip rfl rfl rfl rfl ?_
              refine xo_gskip rfl rfl rfl rfl ?_
              refine xo_gskip rfl rfl rfl rfl ?_
              refine xo_gskip rfl rfl rfl rfl ?_
              refine xo_gskip rfl rfl rfl rfl ?_
              refine xo_gskip rfl rfl rfl rfl ?_
              refine xo_gskip rfl rfl rfl rfl ?_
              refine xo_gskip rfl rfl rfl rfl ?_
              refine xo_rd (rd_pickt rfl rfl) rfl ?_
              refine xo_nil ?_
              refine xq_seq ?_
              refine xc_condt rfl ?_
              refine xc_seq ?_
              refine xc_region ?_
              refine xo_rd (rd_build rfl rfl rfl) rfl ?_
              refine xo_ef rfl (ef_storeB [] _ rfl rfl (by first | rfl | assumption) rfl rfl rfl ?_)
              refine xo_rd (rd_assign rfl) rfl ?_
              refine xo_rd (rd_assign rfl) rfl ?_
              refine xo_nil ?_
              refine xq_seq ?_
              refine xc_ret ?_
              refine xq_then_ret ?_
              refine xq_then_ret ?_
              rotate_left
              refine xo_grd rfl rfl (rd_move rfl) rfl ?_
              refine xo_grd rfl rfl (rd_move rfl) rfl ?_
              refine xo_grd rfl rfl (rd_subn rfl rfl (by omega) (by omega)) rfl ?_
              refine xo_grd rfl rfl (rd_indexAddr rfl rfl (by omega) (by omega)) rfl ?_
              refine xo_grd rfl rfl (rd_load1 rfl (hcz' _ (by intro z hz; simp [hz]))) rfl ?_
              refine xo_grd rfl rfl (rd_convn rfl (by omega) (by omega)) rfl ?_
              refine xo_grd rfl rfl (rd_move rfl) rfl ?_
              refine xo_grd rfl rfl (rd_gtr rfl rfl) rfl ?_
              refine xo_rd (rd_pickf rfl rfl) rfl ?_
              refine xo_nil ?_
              refine xq_seq ?_
              refine xc_dec rfl (fun hw6 => ?_) (fun hw6 => ?_)
              refine xc_seq ?_
              refine xc_region ?_
              refine xo_rd (rd_build rfl rfl rfl) rfl ?_
              refine xo_ef rfl (ef_storeB [] _ rfl rfl (by first | rfl | assumption) rfl rfl rfl ?_)
              refine xo_rd (rd_assign rfl) rfl ?_
              refine xo_rd (rd_assign rfl) rfl ?_
              refine xo_nil ?_
              refine xq_seq ?_
              refine xc_ret ?_
              refine xq_then_ret ?_
              refine xq_then_ret ?_
              rotate_left
              refine xc_skip ?_
              refine xq_seq ?_
              refine xc_seq ?_
              refine xc_region ?_
              refine xo_rd (rd_move rfl) rfl ?_
              refine xo_rd (rd_move rfl) rfl ?_
              refine xo_rd (rd_subn rfl rfl (by omega) (by omega)) rfl ?_
              refine xo_rd (rd_indexAddr rfl rfl (by omega) (by omega)) rfl ?_
              refine xo_rd (rd_load1 rfl (hcz' _ (by intro z hz; simp [hz]))) rfl ?_
              refine xo_rd (rd_fieldAddr rfl) rfl ?_
              refine xo_ef rfl (ef_store1 [] _ rfl rfl (by first | rfl | assumption) rfl rfl rfl ?_)
              refine xo_nil ?_
              refine xq_seq ?_
              refine xc_region ?_
              refine xo_rd (rd_move rfl) rfl ?_
              refine xo_rd (rd_move rfl) rfl ?_
              refine xo_rd (rd_fieldAddr rfl) rfl ?_
              refine xo_rd (rd_load1 rfl (Cl.o0 rfl)) rfl ?_
              refine xo_rd (rd_convn rfl (by omega) (by omega)) rfl ?_
              refine xo_rd (rd_subn rfl rfl (by omega) (by omega)) rfl ?_
              refine xo_rd (rd_sliceHi rfl rfl (by omega) (by omega)) rfl ?_
              refine xo_rd (rd_assign rfl) rfl ?_
              refine xo_nil ?_
              rotate_left
            iterate 3
              · rw [show takeT b0 b1 k bs f = (21, .zero, []) from by unfold takeT; rw [if_neg (by omega), if_neg hff, if_neg (by omega), if_pos h32, hzg, if_pos (by omega)]]
                exact xq_retB3 (.inl rfl) Try.results47 rfl rfl rfl Kn.o0 rfl (List.sublist_cons_self _ _) (TkM.err 21)
            rw [show ((k : Int) - z).toNat = k - z.toNat from by omega]
            refine xq_joined ((z, k - z.toNat) : Int × Nat) ⟨?_, by dsimp only; omega, hz⟩ rfl (by repeat (first | exact keep_nil | refine keep_cons rfl ?_))
            dsimp only
            unfold takeT
            rw [if_neg (by omega), if_neg hff, if_neg (by omega), if_pos h32, hzg, if_neg (by omega), List.drop_of_length_le (by omega)]
        · focus
            refine xc_seq ?_
            refine xc_region ?_
            refine xo_rd (rd_move rfl) rfl ?_
            refine xo_rd (rd_indexAddr rfl rfl (by omega) (by omega)) rfl ?_
            refine xo_rd (rd_load1 rfl (hcell 0 _ rfl _ (by intro z hz; simp [hz]))) rfl ?_
            refine xo_rd (rd_cast (v' := .int .u8 (b0 / 32 % 2 * 32)) (rd_and rfl rfl) (congrArg (Value.int .u8) (and8_32 b0 g0.1 g0.2))) rfl ?_
            refine xo_rd (rd_neq rfl rfl) rfl ?_
            refine xo_nil ?_
            refine xq_seq ?_
            refine xc_ndec rfl (fun h1 => (by exfalso; omega)) (fun h1 => ?_)
            refine xc_skip ?_
          refine xq_joined ((0, k) : Int × Nat) ⟨?_, Nat.le_refl _, (⟨by decide, by decide⟩ : By 0)⟩ rfl (by repeat (first | exact keep_nil | refine keep_cons rfl ?_))
          dsimp only
          unfold takeT
          rw [if_neg (by omega), if_neg hff, if_neg (by omega), if_neg h32]
      · rintro ⟨pd, n'⟩ ⟨ht, hn, hpd⟩
        dsimp only at ht hn hpd ⊢
        rw [ht]
        have hnl : (bs.take n').length = n' := by rw [List.length_take]; omega
        focus
          refine xc_seq ?_
          refine xc_region ?_
          refine xo_rd (rd_move rfl) rfl ?_
          refine xo_ef rfl (ef_call rfl (XF.mono (xf_clone p1 n' (c - Int.toNat 4) (ints .u8 (bs.take n')) (by rw [ints_len]; omega) ((((hp1 L hr).mono (by intro z hz; simp [hz])).ints_take n')) (ints_one _ _) (by omega)) ?_))
          rintro v L' ⟨q', k', l', rfl, hO, _, rfl⟩
          refine xo_perm List.perm_append_comm ?_
          refine xo_rd (rd_fieldAddr rfl) rfl ?_
          refine xo_ef rfl (ef_store1 [] _ rfl rfl (by first | rfl | assumption) rfl rfl rfl ?_)
          refine xo_nil ?_
          refine xq_seq ?_
          refine xc_seq ?_
          refine xc_region ?_
          refine xo_rd (rd_loadB rfl Kn.o0 (by rfl)) rfl ?_
          refine xo_rd (rd_move rfl) rfl ?_
          refine xo_ef rfl (ef_storeB [] _ rfl rfl (by first | rfl | assumption) rfl rfl rfl ?_)
          refine xo_rd (rd_assign rfl) rfl ?_
          refine xo_rd (rd_assign rfl) rfl ?_
          refine xo_nil ?_
          refine xq_seq ?_
          refine xc_ret ?_
        refine xq_permT [_] (List.perm_append_comm (l₁ := L) (l₂ := l')) ?_
        have hO2 : SlO 1 5 (.slice q' (bs.take n').length k') (bs.take n').length (ints .u8 (bs.take n')) l' := by rw [hnl]; exact hO
        refine xq_retB3 (.inl rfl) Try.results47 rfl rfl rfl Kn.o0 rfl (List.sublist_cons_self _ _) ⟨q', k', l', p2, c - (4 + k), ?_, hO2, hp2, by dsimp only; rw [List.length_drop]; omega, rfl⟩
        dsimp only [Pc.enc]
        rw [hnl, List.length_drop]
        rfl
end Go.Proofs.Ytohlaabclifbfaa.X
/-
  A compound is split: walks of my own.
-/
namespace Go.Proofs.Ytohlaabclifbfaa.X
open Go Go.RowKit
set_option linter.unusedVariables false
set_option linter.unusedSimpArgs false
theorem takeT_len {b0 b1 : Int} {k : Nat} {t : List Int} {f : Bool} : (takeT b0 b1 k t f).2.2.length ≤ t.length := by
  unfold takeT
  split
  · exact Nat.zero_le _
  · split
    · exact Nat.zero_le _
    · split
      · exact Nat.zero_le _
      · split
        · split <;> exact Nat.zero_le _
        · dsimp only; rw [List.length_drop]; omega
theorem takeP_len {b : List Int} {f : Bool} (h : (takeP b f).1 = 0) : (takeP b f).2.2.length + 4 ≤ b.length := by
  rcases b with _ | ⟨b0, _ | ⟨b1, _ | ⟨b2, _ | ⟨b3, t⟩⟩⟩⟩
  · cases h
  · cases h
  · cases h
  · cases h
  · have : (takeT b0 b1 (4 * vl [b2, b3]).toNat t f).2.2.length ≤ t.length := takeT_len
    show (takeT b0 b1 (4 * vl [b2, b3]).toNat t f).2.2.length + 4 ≤ t.length + 1 + 1 + 1 + 1
    omega
theorem takeT_by {b0 b1 : Int} {k : Nat} {t : List Int} {f : Bool} (h0 : By b0) (h1 : By b1) (ht : ∀ x, x ∈ t → By x) : (takeT b0 b1 k t f).2.1.Rg ∧ ∀ x, x ∈ (takeT b0 b1 k t f).2.2 → By x := by
  have hn : ∀ x, x ∈ ([] : List Int) → By x := fun x h => by cases h
  unfold takeT
  split
  · exact ⟨Pc.zero_rg, hn⟩
  · split
    · exact ⟨Pc.zero_rg, hn⟩
    · split
      · exact ⟨Pc.zero_rg, hn⟩
      · rename_i hlk
        split
        · split
          · exact ⟨Pc.zero_rg, hn⟩
          · rename_i hz
            refine ⟨⟨?_, h1, By.take ht _, ?_⟩, hn⟩
            · unfold By at *; dsimp only; omega
            · dsimp only
              rw [getD_get (by omega)]
              exact ht _ (List.getElem_mem _)
        · refine ⟨⟨?_, h1, By.take ht _, (⟨by decide, by decide⟩ : By 0)⟩, By.drop ht _⟩
          unfold By at *; dsimp only; omega
theorem takeP_by {b : List Int} {f : Bool} (hb : ∀ x, x ∈ b → By x) : (takeP b f).2.1.Rg ∧ ∀ x, x ∈ (takeP b f).2.2 → By x := by
  have hn : Pc.zero.Rg ∧ ∀ x, x ∈ ([] : List Int) → By x := ⟨Pc.zero_rg, fun x h => by cases h⟩
  rcases b with _ | ⟨b0, _ | ⟨b1, _ | ⟨b2, _ | ⟨b3, t⟩⟩⟩⟩
  · exact hn
  · exact hn
  · exact hn
  · exact hn
  · exact takeT_by (hb b0 (by simp)) (hb b1 (by simp)) fun x hx => hb x (by simp [hx])
theorem comb_err {qs : List Pc} {k : Nat} {f : Bool} {b : List Int} {e : Int} {q : Pc} {r : List Int} (ht : takeP b f = (e, q, r)) (he : e ≠ 0) (hb : ¬ (b = [] ∧ f = false)) : comb qs (splitL (k + 1) f b) = ([], e) := by
  have : splitL (k + 1) f b = ([], e) := by
    show (if b = [] ∧ f = false then ([], 0) else if (takeP b f).1 ≠ 0 then ([], (takeP b f).1) else _) = _
    rw [if_neg hb, ht, if_pos he]
  rw [this]; unfold comb; rw [if_pos he]
theorem comb_ok {qs : List Pc} {k : Nat} {f : Bool} {b : List Int} {q : Pc} {r : List Int} (ht : takeP b f = (0, q, r)) (hb : ¬ (b = [] ∧ f = false)) : comb qs (splitL (k + 1) f b) = comb (qs ++ [q]) (splitL k false r) := by
  have : splitL (k + 1) f b = if (splitL k false r).2 ≠ 0 then ([], (splitL k false r).2) else (q :: (splitL k false r).1, 0) := by
    show (if b = [] ∧ f = false then ([], 0) else if (takeP b f).1 ≠ 0 then ([], (takeP b f).1) else _) = _
    rw [if_neg hb, ht, if_neg (fun h => h rfl)]
  rw [this]; unfold comb
  by_cases h : (splitL k false r).2 ≠ 0
  · rw [if_pos h, if_pos h, if_pos h]
  · rw [if_neg h, if_neg h, if_neg (fun h => h rfl)]; simp
theorem comb_end {qs : List Pc} {k : Nat} : comb qs (splitL (k + 1) false []) = (qs, 0) := by
  show (qs ++ [], 0) = (qs, 0)
  rw [List.append_nil]
theorem splitL_err : ∀ (k : Nat) (f : Bool) (b : List Int), (splitL k f b).2 ≠ 0 → (splitL k f b).1 = []
  | 0, _, _, _ => rfl
  | k + 1, f, b, h => by
    unfold splitL at h ⊢
    split
    · rfl
    · rename_i h1
      rw [if_neg h1] at h
      split
      · rfl
      · rename_i h2
        rw [if_neg h2] at h
        split
        · rfl
        · rename_i h3
          rw [if_neg h3] at h
          exact absurd rfl h
theorem perm_mv (a b c d : List Blk) : (a ++ (b ++ (c ++ d))).Perm (b ++ (c ++ (a ++ d))) := (by classical exact List.perm_iff_count.2 fun a => by simp only [List.append_eq, List.count_append, List.count_cons, List.count_nil, List.cons_append, List.nil_append, List.flatMap_append, List.flatMap_cons, List.flatMap_nil, List.append_nil]; omega)
theorem comb_nil (k : Nat) (f : Bool) (b : List Int) : comb [] (splitL k f b) = splitL k f b := by
  unfold comb
  by_cases h : (splitL k f b).2 ≠ 0
  · rw [if_pos h, ← splitL_err k f b h]
  · have h0 : (splitL k f b).2 = 0 := by simpa using h
    rw [if_neg h, List.nil_append, ← h0]
/-- A packet in new memory. -/
structure Pb where
  q : Pc
  p : Option Addr
  c : Nat
  l : List Blk
def Pb.enc (x : Pb) : List Value := x.q.enc (.slice x.p x.q.bd.length x.c)
def Pb.Ok (x : Pb) : Prop := SlO 1 5 (.slice x.p x.q.bd.length x.c) x.q.bd.length (ints .u8 x.q.bd) x.l
def bls (xs : List Pb) : List Blk := xs.flatMap (·.l)
theorem Pb.len (x : Pb) : x.enc.length = 4 := rfl
theorem Pb.one (x : Pb) : x.enc.all (·.oneCell') = true := rfl
theorem bls_snoc (xs : List Pb) (x : Pb) : bls (xs ++ [x]) = bls xs ++ x.l := by unfold bls; rw [List.flatMap_append]; simp
theorem xf_take2 {W : World} {L : List Blk} (p : Option Addr) (m c : Nat) (bs : List Int) (f f' : Bool) (hff : f' = f) (e : Int) (q : Pc) (r : List Int) (ht : takeP bs f = (e, q, r)) (hx : bs.length = m) (hr : Rs W L p (ints .u8 bs)) (hb : ∀ x, x ∈ bs → By x) (hc : m ≤ c) (hm : m ≤ 1000000000) :
    XF Try.prog W 47 #[.slice p m c, .bool f'] L (fun v L' => ∃ x p2 c2, v = .tuple #[.agg (Pb.enc x).toArray, .slice p2 r.length c2, .int .i64 e] ∧ x.q = q ∧ x.Ok ∧ (∀ L0, Rs W L0 p (ints .u8 bs) → Rs W L0 p2 (ints .u8 r)) ∧ r.length ≤ c2 ∧ L' = x.l ++ L) := by
  subst hff
  refine (xf_take p m c bs f' hx hr hb hc hm).mono ?_
  rw [ht]
  rintro v L' ⟨p1, c1, l, p2, c2, rfl, h1, h2, h3, rfl⟩
  exact ⟨⟨q, p1, c1, l⟩, p2, c2, rfl, rfl, h1, h2, h3, rfl⟩
structure SpS where
  K : Nat
  xs : List Pb
  r : List Int
  p : Option Addr
  c : Nat
  s : Option Addr
  k : Nat
  l : List Blk
structure SpI (W : World) (L : List Blk) (bs : List Int) (z : SpS) : Prop where
  eq : splitL (bs.length + 1) true bs = comb (z.xs.map (·.q)) (splitL (z.K + 1) z.xs.isEmpty z.r)
  fu : z.r.length ≤ z.K
  le : 4 * z.xs.length + z.r.length ≤ bs.length
  rs : Rs W L z.p (ints .u8 z.r)
  by' : ∀ x, x ∈ z.r → By x
  cap : z.r.length ≤ z.c
  ok : ∀ x, x ∈ z.xs → x.Ok
  rg : ∀ x, x ∈ z.xs → x.q.Rg
  sl : SlO 4 35 (.slice z.s z.xs.length z.k) z.xs.length (z.xs.flatMap Pb.enc) z.l
/-- What Split answers. -/
def SpM (W : World) (L : List Blk) (T : TypeId) (z : List Pc × Int) (v : Value) (L' : List Blk) : Prop :=
  ∃ xs s k l, v = .tuple #[.slice s xs.length k, .int .i64 z.2] ∧ xs.map Pb.q = z.1 ∧ (∀ x, x ∈ xs → x.Ok) ∧ (∀ x, x ∈ xs → x.q.Rg) ∧ SlO 4 T (.slice s xs.length k) xs.length (xs.flatMap Pb.enc) l ∧ L' = l ++ (bls xs ++ L)
theorem SpM.err {W : World} {L : List Blk} {T : TypeId} (e : Int) : SpM W L T ([], e) (.tuple #[.slice none 0 0, .int .i64 e]) L := ⟨[], none, 0, [], rfl, rfl, (fun x h => by cases h), (fun x h => by cases h), SlO.nil, rfl⟩
set_option maxHeartbeats 4000000 in
theorem xf_split {W : World} {L : List Blk} (p : Option Addr) (m c : Nat) (bs : List Int) (hx : bs.length = m) (hr : Rs W L p (ints .u8 bs)) (hb : ∀ x, x ∈ bs → By x) (hc : m ≤ c) (hm : m ≤ 1000000) :
    XF Try.prog W 11 #[.slice p m c] L (SpM W L 35 (splitL (bs.length + 1) true bs)) := by
  refine xf_enter (args := [_]) Try.func11 rfl Try.ntmps11 rfl ?_
  focus
    refine xc_seq ?_
    refine xc_region ?_
    refine xo_rd (rd_assign rfl) rfl ?_
    refine xo_rd (rd_assign rfl) rfl ?_
    refine xo_nil ?_
    refine xq_seq ?_
    refine xc_seq ?_
    refine xc_region ?_
    refine xo_rd (rd_assign rfl) rfl ?_
    refine xo_nil ?_
    refine xq_seq ?_
  refine xc_seq (xc_block ?_)
  refine xc_loopI (ι := SpS) (SpI W L bs) (fun z => z.r.length) (fun z => z.l ++ (bls z.xs ++ L)) (fun z => [(0, .slice z.p z.r.length z.c), (4, .slice z.s z.xs.length z.k)]) ⟨m, [], bs, p, c, none, 0, []⟩ ⟨by dsimp only; rw [hx]; exact (comb_nil _ _ _).symm, by dsimp only; omega, by simp, hr, hb, by dsimp only; omega, (fun x h => by cases h), (fun x h => by cases h), SlO.nil⟩ rfl ?_ ?_
  · dsimp only
    rw [hx]
    exact (by repeat (first | exact keep_nil | refine keep_cons rfl ?_))
  · rintro ⟨K, xs, r, p, c, s, k, l⟩ ⟨heq, hfu, hle, hrs, hby, hcap, hok, hrg, hsl⟩
    dsimp only at heq hfu hle hrs hby hcap hok hrg hsl ⊢
    obtain ⟨f, hf⟩ : ∃ f, xs.isEmpty = f := ⟨_, rfl⟩
    have hf2 : decide ((xs.length : Int) = 0) = f := by
      rw [← hf]
      cases xs with
      | nil => rfl
      | cons a t => exact decide_eq_false (by simp; omega)
    obtain ⟨⟨e, q, r'⟩, ht⟩ : ∃ z, takeP r f = z := ⟨_, rfl⟩
    have herr : ¬ (r = [] ∧ f = false) → e ≠ 0 → splitL (bs.length + 1) true bs = ([], e) := fun h1 h2 => by rw [heq, hf]; exact comb_err ht h2 h1
    have hend : r = [] → f = false → splitL (bs.length + 1) true bs = (xs.map Pb.q, 0) := fun h1 h2 => by rw [heq, hf, h1, h2]; exact comb_end
    have htl := takeP_len (b := r) (f := f)
    have htb := takeP_by (b := r) (f := f) hby
    rw [ht] at htl htb
    dsimp only at htl htb
    focus
      refine xc_seq ?_
      refine xc_seq ?_
      refine xc_region ?_
      refine xo_rd (rd_move rfl) rfl ?_
      refine xo_rd (rd_len rfl) rfl ?_
      refine xo_rd (rd_gtr rfl rfl) rfl ?_
      refine xo_rd (rd_move rfl) rfl ?_
      refine xo_dec 11 rfl (fun hq1 => ?_) (fun hq1 => ?_)
      refine xo_gskip rfl rfl rfl rfl ?_
      refine xo_gskip rfl rfl rfl rfl ?_
      refine xo_gskip rfl rfl rfl rfl ?_
      refine xo_rd (rd_pickt rfl rfl) rfl ?_
      refine xo_nil ?_
      refine xq_seq ?_
      refine xc_condt rfl ?_
      refine xc_skip ?_
      refine xq_seq ?_
      refine xc_block ?_
      refine xc_seq ?_
      refine xc_region ?_
      refine xo_rd (rd_move rfl) rfl ?_
      refine xo_rd (rd_move rfl) rfl ?_
      refine xo_rd (rd_len rfl) rfl ?_
      refine xo_rd (rd_eql rfl rfl) rfl ?_
      refine xo_ef rfl (ef_call rfl (XF.mono (xf_take2 p r.length c r f _ hf2 e q r' ht rfl (hrs.mono (by intro z hz; simp [hz])) hby hcap (by omega)) ?_))
      rintro v L' ⟨x, p2, c2, rfl, hxq, hxo, hr2, hc2, rfl⟩
      refine xo_perm (perm_mv x.l l (bls xs) L) ?_
      refine xo_rd (rd_move rfl) rfl ?_
      refine xo_rd (rd_extract rfl rfl) rfl ?_
      refine xo_rd (rd_extract rfl rfl) rfl ?_
      refine xo_rd (rd_extract rfl rfl) rfl ?_
      refine xo_ef rfl (ef_alloc fun r5 => ?_)
      refine xo_ef rfl (ef_storeB [] _ rfl rfl (by first | rfl | assumption) rfl rfl rfl ?_)
      refine xo_rd (rd_assign rfl) rfl ?_
      refine xo_rd (rd_assign rfl) rfl ?_
      refine xo_nil ?_
      refine xq_seq ?_
      refine xc_seq ?_
      refine xc_seq ?_
      refine xc_region ?_
      refine xo_rd (rd_move rfl) rfl ?_
      refine xo_rd (rd_neq rfl rfl) rfl ?_
      refine xo_nil ?_
      refine xq_seq ?_
      refine xc_ndec rfl (fun hq2 => ?_) (fun hq2 => ?_)
      refine xc_seq ?_
      refine xc_region ?_
      refine xo_rd (rd_move rfl) rfl ?_
      refine xo_rd (rd_assign rfl) rfl ?_
      refine xo_rd (rd_assign rfl) rfl ?_
      refine xo_nil ?_
      refine xq_seq ?_
      refine xc_ret ?_
      refine xq_then_ret ?_
      refine xq_block_ret ?_
      refine xq_then_ret ?_
      refine xq_block_ret ?_
      refine xq_then_ret ?_
      rotate_left
      refine xc_skip ?_
      refine xq_seq ?_
      refine xc_region ?_
      refine xo_rd (rd_move rfl) rfl ?_
      refine xo_rd (rd_loadB rfl Kn.o0 (by rfl)) rfl ?_
      refine xo_ef rfl (ef_sliceA (vs := x.enc) rfl rfl (by rw [Pb.len]; decide) (by rw [Pb.len]; decide) fun r30 => ?_)
      refine xo_ef rfl (ef_appendS [_, _] (bls xs ++ (x.l ++ L)) l (news := x.enc) rfl rfl hsl rfl (Rs.fresh (List.Mem.head _)) rfl rfl (by decide) (by omega) (by omega) fun s' k' l' hO' hk' => ?_)
      refine xo_rd (rd_move rfl) rfl ?_
      refine xo_rd (rd_assign rfl) rfl ?_
      refine xo_rd (rd_assign rfl) rfl ?_
      refine xo_nil ?_
      refine xq_block ?_
      rotate_left
      refine xo_grd rfl rfl (rd_move rfl) rfl ?_
      refine xo_grd rfl rfl (rd_len rfl) rfl ?_
      refine xo_grd rfl rfl (rd_eql rfl rfl) rfl ?_
      refine xo_rd (rd_pickf rfl rfl) rfl ?_
      refine xo_nil ?_
      refine xq_seq ?_
      refine xc_dec rfl (fun hq3 => ?_) (fun hq3 => ?_)
      refine xc_skip ?_
      refine xq_seq ?_
      refine xc_block ?_
      refine xc_seq ?_
      refine xc_region ?_
      refine xo_rd (rd_move rfl) rfl ?_
      refine xo_rd (rd_move rfl) rfl ?_
      refine xo_rd (rd_len rfl) rfl ?_
      refine xo_rd (rd_eql rfl rfl) rfl ?_
      refine xo_ef rfl (ef_call rfl (XF.mono (xf_take2 p r.length c r f _ hf2 e q r' ht rfl (hrs.mono (by intro z hz; simp [hz])) hby hcap (by omega)) ?_))
      rintro v L' ⟨x, p2, c2, rfl, hxq, hxo, hr2, hc2, rfl⟩
      refine xo_perm (perm_mv x.l l (bls xs) L) ?_
      refine xo_rd (rd_move rfl) rfl ?_
      refine xo_rd (rd_extract rfl rfl) rfl ?_
      refine xo_rd (rd_extract rfl rfl) rfl ?_
      refine xo_rd (rd_extract rfl rfl) rfl ?_
      refine xo_ef rfl (ef_alloc fun r5 => ?_)
      refine xo_ef rfl (ef_storeB [] _ rfl rfl (by first | rfl | assumption) rfl rfl rfl ?_)
      refine xo_rd (rd_assign rfl) rfl ?_
      refine xo_rd (rd_assign rfl) rfl ?_
      refine xo_nil ?_
      refine xq_seq ?_
      refine xc_seq ?_
      refine xc_seq ?_
      refine xc_region ?_
      refine xo_rd (rd_move rfl) rfl ?_
      refine xo_rd (rd_neq rfl rfl) rfl ?_
      refine xo_nil ?_
      refine xq_seq ?_
      refine xc_ndec rfl (fun hq4 => ?_) (fun hq4 => (by exfalso; omega))
      refine xc_seq ?_
      refine xc_region ?_
      refine xo_rd (rd_move rfl) rfl ?_
      refine xo_rd (rd_assign rfl) rfl ?_
      refine xo_rd (rd_assign rfl) rfl ?_
      refine xo_nil ?_
      refine xq_seq ?_
      refine xc_ret ?_
      refine xq_then_ret ?_
      refine xq_block_ret ?_
      refine xq_then_ret ?_
      refine xq_block_ret ?_
      refine xq_then_ret ?_
      rotate_left
      refine xc_exit ?_
      refine xq_then_exit ?_
      refine xq_then_exit ?_
      refine xq_block_hit ?_
      refine xq_seq ?_
      refine xc_seq ?_
      refine xc_region ?_
      refine xo_rd (rd_move rfl) rfl ?_
      refine xo_rd (rd_assign rfl) rfl ?_
      refine xo_rd (rd_assign rfl) rfl ?_
      refine xo_nil ?_
      refine xq_seq ?_
      refine xc_ret ?_
      rotate_left
    · rw [herr (fun h => by rw [h.1] at hq1; exact absurd hq1 (by decide)) hq2]
      exact xq_sub ((List.sublist_append_right x.l L).trans ((List.sublist_append_right (bls xs) _).trans ((List.sublist_append_right l _).trans (List.sublist_cons_self _ _)))) (xq_ret2 (.inl rfl) Try.results11 rfl rfl (SpM.err e))
    · have hrl := htl hq2
      subst hq2
      obtain ⟨K', rfl⟩ : ∃ K', K = K' + 1 := ⟨K - 1, by omega⟩
      have hne : ¬ (r = [] ∧ f = false) := fun h => by rw [h.1] at hq1; exact absurd hq1 (by decide)
      have hl : (xs ++ [x]).length = xs.length + 1 := by simp
      refine xq_sub (List.sublist_append_right [_, _] _) (xq_roundI (⟨K', xs ++ [x], r', p2, c2, s', k', l'⟩ : SpS) ⟨?_, by dsimp only; omega, by dsimp only; rw [hl]; omega, hr2 _ hrs, htb.2, hc2, ?_, ?_, ?_⟩ (by dsimp only; omega) ?_ ?_)
      · dsimp only
        rw [heq, hf, comb_ok ht hne, List.map_append, List.map_singleton, hxq, show (xs ++ [x]).isEmpty = false from by cases xs <;> rfl]
      · intro z hz
        rcases List.mem_append.1 hz with h | h
        · exact hok z h
        · rw [List.mem_singleton.1 h]; exact hxo
      · intro z hz
        rcases List.mem_append.1 hz with h | h
        · exact hrg z h
        · rw [List.mem_singleton.1 h, hxq]; exact htb.1
      · dsimp only
        rw [hl, List.flatMap_append, List.flatMap_singleton]; exact hO'
      · dsimp only
        rw [bls_snoc, List.append_assoc]
      · dsimp only
        rw [hl]
        exact (by repeat (first | exact keep_nil | refine keep_cons rfl ?_))
    · rw [herr (fun h => by rw [← hf2, decide_eq_true hq3] at h; exact absurd h.2 (by decide)) (fun h => by have := htl h; omega)]
      exact xq_sub ((List.sublist_append_right x.l L).trans ((List.sublist_append_right (bls xs) _).trans ((List.sublist_append_right l _).trans (List.sublist_cons_self _ _)))) (xq_ret2 (.inl rfl) Try.results11 rfl rfl (SpM.err e))
    · rw [hend (List.length_eq_zero_iff.1 (by omega)) (by rw [← hf2]; exact decide_eq_false hq3)]
      exact xq_ret2 (.inl rfl) Try.results11 rfl rfl ⟨xs, s, k, l, rfl, rfl, hok, hrg, hsl, rfl⟩
end Go.Proofs.Ytohlaabclifbfaa.X
/-
  The reference splits a compound: a walk of my own.
-/
namespace Go.Proofs.Ytohlaabclifbfaa.X
open Go Go.RowKit
set_option linter.unusedVariables false
set_option linter.unusedSimpArgs false
theorem Rs.sub2 {W : World} {L L' : List Blk} {b o : Nat} {xs : List Int} (h : Rs W L (some ⟨b, o, none⟩) (ints .u8 xs)) (i n : Nat) (hs : ∀ z, z ∈ L → z ∈ L') : Rs W L' (some ⟨b, o + i * 1, none⟩) (ints .u8 ((xs.drop i).take n)) := by
  rw [Nat.mul_one]
  refine Rs.ints_take ?_ n
  rw [ints_drop]
  exact (h.mono hs).drop i
structure RpS where
  K : Nat
  xs : List Pb
  a : Nat
  s : Option Addr
  k : Nat
  l : List Blk
structure RpI (W : World) (L : List Blk) (bs : List Int) (z : RpS) : Prop where
  eq : splitL (bs.length + 1) true bs = comb (z.xs.map (·.q)) (splitL (z.K + 1) z.xs.isEmpty (bs.drop z.a))
  fu : bs.length - z.a ≤ z.K
  le : z.a ≤ bs.length
  few : 4 * z.xs.length ≤ z.a
  emp : z.xs.isEmpty = decide (z.a = 0)
  ok : ∀ x, x ∈ z.xs → x.Ok
  rg : ∀ x, x ∈ z.xs → x.q.Rg
  sl : SlO 4 46 (.slice z.s z.xs.length z.k) z.xs.length (z.xs.flatMap Pb.enc) z.l
set_option maxHeartbeats 8000000 in
theorem xf_rsplit {W : World} {L : List Blk} (p : Option Addr) (m c : Nat) (bs : List Int) (hx : bs.length = m) (hr : Rs W L p (ints .u8 bs)) (hb : ∀ x, x ∈ bs → By x) (hc : m ≤ c) (hm : m ≤ 1000000) :
    XF Try.prog W 10 #[.slice p m c] L (SpM W L 46 (splitL (bs.length + 1) true bs)) := by
  refine xf_enter (args := [_]) Try.func10 rfl Try.ntmps10 rfl ?_
  focus
    refine xc_seq ?_
    refine xc_region ?_
    refine xo_rd (rd_assign rfl) rfl ?_
    refine xo_rd (rd_assign rfl) rfl ?_
    refine xo_nil ?_
    refine xq_seq ?_
    refine xc_seq ?_
    refine xc_region ?_
    refine xo_rd (rd_assign rfl) rfl ?_
    refine xo_nil ?_
    refine xq_seq ?_
    refine xc_seq ?_
    refine xc_region ?_
    refine xo_rd (rd_assign rfl) rfl ?_
    refine xo_nil ?_
    refine xq_seq ?_
  refine xc_seq (xc_block ?_)
  refine xc_loopI (ι := RpS) (RpI W L bs) (fun z => bs.length - z.a) (fun z => z.l ++ (bls z.xs ++ L)) (fun z => [(0, .slice p m c), (4, .slice z.s z.xs.length z.k), (5, .int .i64 z.a)]) ⟨m, [], 0, none, 0, []⟩ ⟨by dsimp only; rw [hx]; exact (comb_nil _ _ _).symm, by dsimp only; omega, Nat.zero_le _, by simp, rfl, (fun x h => by cases h), (fun x h => by cases h), SlO.nil⟩ rfl (by repeat (first | exact keep_nil | refine keep_cons rfl ?_)) ?_
  rintro ⟨K, xs, a, s, k, l⟩ ⟨heq, hfu, hle, hfew, hemp, hok, hrg, hsl⟩
  dsimp only at heq hfu hle hfew hemp hok hrg hsl ⊢
  obtain ⟨f, hf⟩ : ∃ f, decide (a = 0) = f := ⟨_, rfl⟩
  rw [hemp, hf] at heq
  have hsub : L.Sublist (l ++ (bls xs ++ L)) := (List.sublist_append_right (bls xs) L).trans (List.sublist_append_right l _)
  by_cases hend : a < m ∨ a = 0
  · have hne : ¬ (bs.drop a = [] ∧ f = false) := fun h => by
      have h1 := List.drop_eq_nil_iff.1 h.1
      rcases hend with h2 | h2
      · omega
      · rw [← hf, decide_eq_true h2] at h; exact absurd h.2 (by decide)
    have herr : ∀ e, takeP (bs.drop a) f = (e, .zero, []) → e ≠ 0 → splitL (bs.length + 1) true bs = ([], e) := fun e h1 h2 => by rw [heq]; exact comb_err h1 h2 hne
    by_cases h4 : m - a < 4
    · rw [herr 10 (takeP_short (by rw [List.length_drop]; omega)) (by decide)]
      focus
        refine xc_seq ?_
        refine xc_seq ?_
        refine xc_region ?_
        refine xo_rd (rd_move rfl) rfl ?_
        refine xo_rd (rd_move rfl) rfl ?_
        refine xo_rd (rd_len rfl) rfl ?_
        refine xo_rd (rd_lss rfl rfl) rfl ?_
        refine xo_rd (rd_move rfl) rfl ?_
        refine xo_dec 12 rfl (fun h1 => ?_) (fun h1 => ?_)
        refine xo_gskip rfl rfl rfl rfl ?_
        refine xo_gskip rfl rfl rfl rfl ?_
        refine xo_rd (rd_pickt rfl rfl) rfl ?_
        refine xo_nil ?_
        refine xq_seq ?_
        refine xc_condt rfl ?_
        refine xc_skip ?_
        refine xq_seq ?_
        refine xc_block ?_
        refine xc_seq ?_
        refine xc_seq ?_
        refine xc_region ?_
        refine xo_rd (rd_move rfl) rfl ?_
        refine xo_rd (rd_len rfl) rfl ?_
        refine xo_rd (rd_move rfl) rfl ?_
        refine xo_rd (rd_subn rfl rfl (by omega) (by omega)) rfl ?_
        refine xo_rd (rd_lss rfl rfl) rfl ?_
        refine xo_nil ?_
        refine xq_seq ?_
        refine xc_dec rfl (fun h2 => ?_) (fun h2 => (by exfalso; omega))
        refine xc_seq ?_
        refine xc_region ?_
        refine xo_rd (rd_assign rfl) rfl ?_
        refine xo_rd (rd_assign rfl) rfl ?_
        refine xo_nil ?_
        refine xq_seq ?_
        refine xc_ret ?_
        refine xq_then_ret ?_
        refine xq_block_ret ?_
        refine xq_then_ret ?_
        refine xq_block_ret ?_
        refine xq_then_ret ?_
        rotate_left
        refine xo_grd rfl rfl (rd_move rfl) rfl ?_
        refine xo_grd rfl rfl (rd_eql rfl rfl) rfl ?_
        refine xo_rd (rd_pickf rfl rfl) rfl ?_
        refine xo_nil ?_
        refine xq_seq ?_
        refine xc_dec rfl (fun h3 => ?_) (fun h3 => (by exfalso; omega))
        refine xc_skip ?_
        refine xq_seq ?_
        refine xc_block ?_
        refine xc_seq ?_
        refine xc_seq ?_
        refine xc_region ?_
        refine xo_rd (rd_move rfl) rfl ?_
        refine xo_rd (rd_len rfl) rfl ?_
        refine xo_rd (rd_move rfl) rfl ?_
        refine xo_rd (rd_subn rfl rfl (by omega) (by omega)) rfl ?_
        refine xo_rd (rd_lss rfl rfl) rfl ?_
        refine xo_nil ?_
        refine xq_seq ?_
        refine xc_dec rfl (fun h4 => ?_) (fun h4 => (by exfalso; omega))
        refine xc_seq ?_
        refine xc_region ?_
        refine xo_rd (rd_assign rfl) rfl ?_
        refine xo_rd (rd_assign rfl) rfl ?_
        refine xo_nil ?_
        refine xq_seq ?_
        refine xc_ret ?_
        refine xq_then_ret ?_
        refine xq_block_ret ?_
        refine xq_then_ret ?_
        refine xq_block_ret ?_
        refine xq_then_ret ?_
        rotate_left
      all_goals exact xq_sub hsub (xq_ret2 (.inl rfl) Try.results10 rfl rfl (SpM.err 10))
    obtain ⟨b0, b1, b2, b3, t, hd⟩ : ∃ b0 b1 b2 b3 t, bs.drop a = b0 :: b1 :: b2 :: b3 :: t := by
      have hl : (bs.drop a).length = m - a := by rw [List.length_drop, hx]
      rcases hbd : bs.drop a with _ | ⟨b0, _ | ⟨b1, _ | ⟨b2, _ | ⟨b3, t⟩⟩⟩⟩
      · rw [hbd] at hl; simp at hl; omega
      · rw [hbd] at hl; simp at hl; omega
      · rw [hbd] at hl; simp at hl; omega
      · rw [hbd] at hl; simp at hl; omega
      · exact ⟨b0, b1, b2, b3, t, rfl⟩
    have hbd : ∀ x, x ∈ b0 :: b1 :: b2 :: b3 :: t → By x := fun x h => hb x (List.mem_of_mem_drop (hd ▸ h))
    have g0 := hbd b0 (by simp); have g1 := hbd b1 (by simp); have g2 := hbd b2 (by simp); have g3 := hbd b3 (by simp)
    have hbt : ∀ x, x ∈ t → By x := fun x h => hbd x (by simp [h])
    unfold By at g0 g1 g2 g3
    have htl : t.length + 4 + a = m := by
      have := congrArg List.length hd
      rw [List.length_drop, hx] at this
      simp at this; omega
    obtain ⟨b, o, rfl, hc0⟩ := hr.int (i := 0) (by omega)
    have hcell : ∀ (i : Nat) (z : Int) (J : Int), J = a + i → (b0 :: b1 :: b2 :: b3 :: t)[i]? = some z → ∀ L', (∀ z, z ∈ L → z ∈ L') → Cl W L' b (o + J.toNat * 1) (.int .u8 z) := fun i z J hJ hz L' hL' => by
      rw [← hd, List.getElem?_drop] at hz
      obtain ⟨hi, rfl⟩ := List.getElem?_eq_some_iff.1 hz
      obtain ⟨b', o', he, hci⟩ := (hr.mono hL').int hi
      simp only [Option.some.injEq, Addr.mk.injEq, and_true] at he
      obtain ⟨rfl, rfl⟩ := he
      rw [show J.toNat = a + i from by omega]
      exact hci
    rw [hd] at herr heq
    obtain ⟨w, hw⟩ : ∃ w, vl [b2, b3] = w := ⟨_, rfl⟩
    have hwv : w = b2 * 256 + b3 := by rw [← hw]; simp only [vl, List.foldl]; omega
    obtain ⟨kk, hkk⟩ : ∃ k : Nat, k = (4 * w).toNat := ⟨_, rfl⟩
    have hkv : (kk : Int) = 4 * w := by omega
    have herr' : ∀ e, takeT b0 b1 kk t f = (e, .zero, []) → e ≠ 0 → splitL (bs.length + 1) true bs = ([], e) := fun e h1 h2 => herr e (by show takeT b0 b1 (4 * vl [b2, b3]).toNat t f = _; rw [hw, ← hkk]; exact h1) h2
    have hg : ∀ e, takeT b0 b1 kk t f = (e, .zero, []) → e ≠ 0 → SpM W L 46 (splitL (bs.length + 1) true bs) (.tuple #[.slice none 0 0, .int .i64 e]) L := fun e h1 h2 => by rw [herr' e h1 h2]; exact SpM.err e
    focus
      refine xc_seq ?_
      refine xc_seq ?_
      refine xc_region ?_
      refine xo_rd (rd_move rfl) rfl ?_
      refine xo_rd (rd_move rfl) rfl ?_
      refine xo_rd (rd_len rfl) rfl ?_
      refine xo_rd (rd_lss rfl rfl) rfl ?_
      refine xo_rd (rd_move rfl) rfl ?_
      refine xo_dec 12 rfl (fun hq1 => ?_) (fun hq1 => (by exfalso; omega))
      refine xo_gskip rfl rfl rfl rfl ?_
      refine xo_gskip rfl rfl rfl rfl ?_
      refine xo_rd (rd_pickt rfl rfl) rfl ?_
      refine xo_nil ?_
      refine xq_seq ?_
      refine xc_condt rfl ?_
      refine xc_skip ?_
      refine xq_seq ?_
      refine xc_block ?_
      refine xc_seq ?_
      refine xc_seq ?_
      refine xc_region ?_
      refine xo_rd (rd_move rfl) rfl ?_
      refine xo_rd (rd_len rfl) rfl ?_
      refine xo_rd (rd_move rfl) rfl ?_
      refine xo_rd (rd_subn rfl rfl (by omega) (by omega)) rfl ?_
      refine xo_rd (rd_lss rfl rfl) rfl ?_
      refine xo_nil ?_
      refine xq_seq ?_
      refine xc_dec rfl (fun hq2 => (by exfalso; omega)) (fun hq2 => ?_)
      refine xc_skip ?_
      refine xq_seq ?_
      refine xc_seq ?_
      refine xc_seq ?_
      refine xc_region ?_
      refine xo_rd (rd_move rfl) rfl ?_
      refine xo_rd (rd_move rfl) rfl ?_
      refine xo_rd (rd_indexAddr rfl rfl (by omega) (by omega)) rfl ?_
      refine xo_rd (rd_load1 rfl (hcell 0 _ _ (by omega) rfl _ (by intro z hz; simp [hz]))) rfl ?_
      refine xo_rd (rd_quon rfl rfl (by omega) (by omega) (by omega) (by omega)) rfl ?_
      refine xo_rd (rd_neq rfl rfl) rfl ?_
      refine xo_nil ?_
      refine xq_seq ?_
      refine xc_ndec rfl (fun hq3 => ?_) (fun hq3 => ?_)
      refine xc_seq ?_
      refine xc_region ?_
      refine xo_rd (rd_assign rfl) rfl ?_
      refine xo_rd (rd_assign rfl) rfl ?_
      refine xo_nil ?_
      refine xq_seq ?_
      refine xc_ret ?_
      refine xq_then_ret ?_
      refine xq_block_ret ?_
      refine xq_then_ret ?_
      refine xq_block_ret ?_
      refine xq_then_ret ?_
      rotate_left
      refine xc_skip ?_
      refine xq_seq ?_
      rotate_left
    · exact xq_sub hsub (xq_ret2 (.inl rfl) Try.results10 rfl rfl (hg 20 (by unfold takeT; rw [if_pos hq3]) (by decide)))
    refine xc_join (ι := Unit) (fun _ => ¬ (f = true ∧ isFirst b1 = false)) (fun _ => l ++ (bls xs ++ L)) (fun _ => [(0, .slice (some ⟨b, o, none⟩) m c), (4, .slice s xs.length k), (5, .int .i64 a)]) ?_ ?_
    · focus
        refine xc_seq ?_
        refine xc_region ?_
        refine xo_rd (rd_move rfl) rfl ?_
        refine xo_rd (rd_eql rfl rfl) rfl ?_
        refine xo_rd (rd_move rfl) rfl ?_
        refine xo_dec 29 rfl (fun hw1 => ?_) (fun hw1 => ?_)
        refine xo_grd rfl rfl (rd_move rfl) rfl ?_
        refine xo_grd rfl rfl (rd_indexAddr rfl rfl (by omega) (by omega)) rfl ?_
        refine xo_grd rfl rfl (rd_load1 rfl (hcell 1 _ _ (by omega) rfl _ (by intro z hz; simp [hz]))) rfl ?_
        refine xo_grd rfl rfl (rd_neq rfl rfl) rfl ?_
        refine xo_rd (rd_pickt rfl rfl) rfl ?_
        refine xo_rd (rd_move rfl) rfl ?_
        refine xo_ndec 35 rfl (fun hw2 => ?_) (fun hw2 => ?_)
        refine xo_grd rfl rfl (rd_move rfl) rfl ?_
        refine xo_grd rfl rfl (rd_indexAddr rfl rfl (by omega) (by omega)) rfl ?_
        refine xo_grd rfl rfl (rd_load1 rfl (hcell 1 _ _ (by omega) rfl _ (by intro z hz; simp [hz]))) rfl ?_
        refine xo_grd rfl rfl (rd_neq rfl rfl) rfl ?_
        refine xo_rd (rd_pickt rfl rfl) rfl ?_
        refine xo_nil ?_
        refine xq_seq ?_
        refine xc_ndec rfl (fun hw3 => ?_) (fun hw3 => ?_)
        refine xc_seq ?_
        refine xc_region ?_
        refine xo_rd (rd_assign rfl) rfl ?_
        refine xo_rd (rd_assign rfl) rfl ?_
        refine xo_nil ?_
        refine xq_seq ?_
        refine xc_ret ?_
        refine xq_then_ret ?_
        refine xq_block_ret ?_
        refine xq_then_ret ?_
        refine xq_block_ret ?_
        refine xq_then_ret ?_
        rotate_left
        refine xc_skip ?_
        rotate_left
        refine xo_gskip rfl rfl rfl rfl ?_
        refine xo_gskip rfl rfl rfl rfl ?_
        refine xo_gskip rfl rfl rfl rfl ?_
        refine xo_gskip rfl rfl rfl rfl ?_
        refine xo_rd (rd_pickf rfl rfl) rfl ?_
        refine xo_nil ?_
        refine xq_seq ?_
        refine xc_condf rfl ?_
        refine xc_skip ?_
        rotate_left
        refine xo_gskip rfl rfl rfl rfl ?_
        refine xo_gskip rfl rfl rfl rfl ?_
        refine xo_gskip rfl rfl rfl rfl ?_
        refine xo_gskip rfl rfl rfl rfl ?_
        refine xo_rd (rd_pickf rfl rfl) rfl ?_
        refine xo_rd (rd_move rfl) rfl ?_
        refine xo_gskip rfl rfl rfl rfl ?_
        refine xo_gskip rfl rfl rfl rfl ?_
        refine xo_gskip rfl rfl rfl rfl ?_
        refine xo_gskip rfl rfl rfl rfl ?_
        refine xo_rd (rd_pickf rfl rfl) rfl ?_
        refine xo_nil ?_
        refine xq_seq ?_
        refine xc_condf rfl ?_
        refine xc_skip ?_
        rotate_left
      · have e1 : f = true := by rw [← hf]; exact decide_eq_true (by omega)
        have e2 : isFirst b1 = false := decide_eq_false (by omega)
        exact xq_sub hsub (xq_ret2 (.inl rfl) Try.results10 rfl rfl (hg 60 (by unfold takeT; rw [if_neg (by omega), if_pos ⟨e1, e2⟩]) (by decide)))
      · exact xq_joined () (fun h => by rw [show isFirst b1 = true from decide_eq_true (by omega)] at h; exact absurd h.2 (by decide)) rfl (by repeat (first | exact keep_nil | refine keep_cons rfl ?_))
      · exact xq_joined () (fun h => by rw [show isFirst b1 = true from decide_eq_true (by omega)] at h; exact absurd h.2 (by decide)) rfl (by repeat (first | exact keep_nil | refine keep_cons rfl ?_))
      · exact xq_joined () (fun h => by rw [← hf, decide_eq_false (show ¬ a = 0 by omega)] at h; exact absurd h.1 (by decide)) rfl (by repeat (first | exact keep_nil | refine keep_cons rfl ?_))
    rintro _ hff
    have hvr : ∀ L', (∀ z, z ∈ L → z ∈ L') → Rs W L' (some ⟨b, o + ((a : Int) + 2).toNat * 1, none⟩) (ints .u8 [b2, b3]) := fun L' h => by
      rw [show ((a : Int) + 2).toNat = a + 2 from by omega]
      have h1 := Rs.sub2 hr (a + 2) 2 h
      rwa [← List.drop_drop, hd] at h1
    focus
      refine xc_seq ?_
      refine xc_region ?_
      refine xo_rd (rd_move rfl) rfl ?_
      refine xo_rd (rd_addn rfl rfl (by omega) (by omega)) rfl ?_
      refine xo_rd (rd_move rfl) rfl ?_
      refine xo_rd (rd_move rfl) rfl ?_
      refine xo_rd (rd_addn rfl rfl (by omega) (by omega)) rfl ?_
      refine xo_rd (rd_move rfl) rfl ?_
      refine xo_rd (rd_addn rfl rfl (by omega) (by omega)) rfl ?_
      refine xo_rd (rd_slice rfl rfl rfl (by omega) (by omega) (by omega) (by omega)) rfl ?_
      refine xo_ef rfl (ef_call rfl (XF.mono (xf_value (some ⟨b, o + ((a : Int) + 2).toNat * 1, none⟩) _ _ [b2, b3] (by show 2 = _; omega) (hvr _ (fun z h => hsub.subset h)) (fun x h => hbd x (by simp at h ⊢; omega)) (by omega)) ?_))
      rintro v L' ⟨rfl, rfl⟩
      refine xo_rd (rd_cast (v' := .int .i64 w) (rd_convn rfl (by omega) (by omega)) (congrArg (Value.int .i64) hw)) rfl ?_
      refine xo_rd (rd_muln rfl rfl (by omega) (by omega)) rfl ?_
      refine xo_rd (rd_cast (v' := .int .i64 ((a + 4 + kk : Nat) : Int)) (rd_addn rfl rfl (by omega) (by omega)) (congrArg (Value.int .i64) (by omega))) rfl ?_
      refine xo_rd (rd_assign rfl) rfl ?_
      refine xo_nil ?_
      refine xq_seq ?_
    have hkm : t.length < kk → SpM W L 46 (splitL (bs.length + 1) true bs) (.tuple #[.slice none 0 0, .int .i64 61]) L := fun h => hg 61 (by unfold takeT; rw [if_neg (by omega), if_neg hff, if_pos h]) (by decide)
    focus
      refine xc_seq ?_
      refine xc_seq ?_
      refine xc_region ?_
      refine xo_rd (rd_move rfl) rfl ?_
      refine xo_rd (rd_move rfl) rfl ?_
      refine xo_rd (rd_len rfl) rfl ?_
      refine xo_rd (rd_gtr rfl rfl) rfl ?_
      refine xo_nil ?_
      refine xq_seq ?_
      refine xc_dec rfl (fun hq1 => ?_) (fun hq1 => ?_)
      refine xc_seq ?_
      refine xc_region ?_
      refine xo_rd (rd_assign rfl) rfl ?_
      refine xo_rd (rd_assign rfl) rfl ?_
      refine xo_nil ?_
      refine xq_seq ?_
      refine xc_ret ?_
      refine xq_then_ret ?_
      refine xq_block_ret ?_
      refine xq_then_ret ?_
      refine xq_block_ret ?_
      refine xq_then_ret ?_
      rotate_left
      refine xc_skip ?_
      refine xq_seq ?_
      refine xc_seq ?_
      refine xc_drawM [0, 0, 3, 4, 8, 0, 0, 64, 160, 256, 528, 0, 4095] [0, 0, 3, 4, 8, 0, 0, 64, 160, 256, 528, 0, 4095] (L) (by kernel_rfl) (by kernel_rfl) (by kernel_rfl) ?_
      refine xm_take 0 (m' := 1) rfl (by kernel_rfl) (by first | exact Sb.refl | exact Sb.nil | (repeat (first | exact Sb.nil | exact Sb.refl | exact Sb.app0 | apply Sb.keep | apply Sb.keepApp | apply Sb.cons | apply Sb.app))) (rd_move rfl) rfl (by kernel_rfl) ?_
      refine xm_take 1 (m' := 3) rfl (by kernel_rfl) (by first | exact Sb.refl | exact Sb.nil | (repeat (first | exact Sb.nil | exact Sb.refl | exact Sb.app0 | apply Sb.keep | apply Sb.keepApp | apply Sb.cons | apply Sb.app))) (rd_move rfl) rfl (by kernel_rfl) ?_
      refine xm_take 2 (m' := 7) rfl (by kernel_rfl) (by first | exact Sb.refl | exact Sb.nil | (repeat (first | exact Sb.nil | exact Sb.refl | exact Sb.app0 | apply Sb.keep | apply Sb.keepApp | apply Sb.cons | apply Sb.app))) (rd_indexAddr rfl rfl (by omega) (by omega)) rfl (by kernel_rfl) ?_
      refine xm_take 3 (m' := 15) rfl (by kernel_rfl) (by first | exact Sb.refl | exact Sb.nil | (repeat (first | exact Sb.nil | exact Sb.refl | exact Sb.app0 | apply Sb.keep | apply Sb.keepApp | apply Sb.cons | apply Sb.app))) (rd_load1 rfl (hcell 0 _ _ (show (a : Int) = a + (0 : Nat) by omega) rfl _ (by intro z hz; simp [hz]))) rfl (by kernel_rfl) ?_
      refine xm_take 4 (m' := 31) rfl (by kernel_rfl) (by first | exact Sb.refl | exact Sb.nil | (repeat (first | exact Sb.nil | exact Sb.refl | exact Sb.app0 | apply Sb.keep | apply Sb.keepApp | apply Sb.cons | apply Sb.app))) (rd_remn rfl rfl (by omega) (by omega)) rfl (by kernel_rfl) ?_
      refine xm_take 5 (m' := 63) rfl (by kernel_rfl) (by first | exact Sb.refl | exact Sb.nil | (repeat (first | exact Sb.nil | exact Sb.refl | exact Sb.app0 | apply Sb.keep | apply Sb.keepApp | apply Sb.cons | apply Sb.app))) (rd_move rfl) rfl (by kernel_rfl) ?_
      refine xm_take 6 (m' := 127) rfl (by kernel_rfl) (by first | exact Sb.refl | exact Sb.nil | (repeat (first | exact Sb.nil | exact Sb.refl | exact Sb.app0 | apply Sb.keep | apply Sb.keepApp | apply Sb.cons | apply Sb.app))) (rd_move rfl) rfl (by kernel_rfl) ?_
      refine xm_take 7 (m' := 255) rfl (by kernel_rfl) (by first | exact Sb.refl | exact Sb.nil | (repeat (first | exact Sb.nil | exact Sb.refl | exact Sb.app0 | apply Sb.keep | apply Sb.keepApp | apply Sb.cons | apply Sb.app))) (rd_addn rfl rfl (by omega) (by omega)) rfl (by kernel_rfl) ?_
      refine xm_take 8 (m' := 511) rfl (by kernel_rfl) (by first | exact Sb.refl | exact Sb.nil | (repeat (first | exact Sb.nil | exact Sb.refl | exact Sb.app0 | apply Sb.keep | apply Sb.keepApp | apply Sb.cons | apply Sb.app))) (rd_indexAddr rfl rfl (by omega) (by omega)) rfl (by kernel_rfl) ?_
      refine xm_take 9 (m' := 1023) rfl (by kernel_rfl) (by first | exact Sb.refl | exact Sb.nil | (repeat (first | exact Sb.nil | exact Sb.refl | exact Sb.app0 | apply Sb.keep | apply Sb.keepApp | apply Sb.cons | apply Sb.app))) (rd_load1 rfl (hcell 1 _ _ (show (a : Int) + 1 = a + (1 : Nat) by omega) rfl _ (by intro z hz; simp [hz]))) rfl (by kernel_rfl) ?_
      refine xm_take 10 (m' := 2047) rfl (by kernel_rfl) (by first | exact Sb.refl | exact Sb.nil | (repeat (first | exact Sb.nil | exact Sb.refl | exact Sb.app0 | apply Sb.keep | apply Sb.keepApp | apply Sb.cons | apply Sb.app))) (rd_build rfl rfl rfl) rfl (by kernel_rfl) ?_
      refine xm_one 11 (m' := 4095) rfl (by kernel_rfl) rfl (by kernel_rfl) (ef_alloc fun r7 => ?_)
      refine ⟨(by first | exact Sb.refl | exact Sb.nil | (repeat (first | exact Sb.nil | exact Sb.refl | exact Sb.app0 | apply Sb.keep | apply Sb.keepApp | apply Sb.cons | apply Sb.app))), ?_⟩
      refine xm_one 12 (m' := 8191) rfl (by kernel_rfl) rfl (by kernel_rfl) (ef_storeB [] _ rfl rfl (by first | rfl | assumption) rfl rfl rfl ?_)
      refine ⟨(by first | exact Sb.refl | exact Sb.nil | (repeat (first | exact Sb.nil | exact Sb.refl | exact Sb.app0 | apply Sb.keep | apply Sb.keepApp | apply Sb.cons | apply Sb.app))), ?_⟩
      refine xm_done (by kernel_rfl) ?_
      refine xq_seq ?_
      rotate_left
    · exact xq_sub hsub (xq_ret2 (.inl rfl) Try.results10 rfl rfl (hkm (by omega)))
    have hkt : kk ≤ t.length := by omega
    refine xc_join (ι := Int × Nat) (fun s => takeT b0 b1 kk t f = (0, ⟨b0 % 32, b1, t.take s.2, s.1⟩, t.drop kk) ∧ s.2 = kk - s.1.toNat ∧ By s.1 ∧ s.1 ≤ kk) (fun z => (r7, .cells #[.int .u8 (b0 % 32), .int .u8 b1, .slice none 0 0, .int .u8 z.1] 46 (0, 0)) :: (l ++ (bls xs ++ L))) (fun _ => [(0, .slice (some ⟨b, o, none⟩) m c), (4, .slice s xs.length k), (5, .int .i64 a), (6, .int .i64 ((a + 4 + kk : Nat) : Int)), (7, .pointer (some ⟨r7, 0, none⟩))]) ?_ ?_
    · by_cases h32 : b0 / 32 % 2 = 1
      · by_cases hk0 : kk = 0 ∨ kk < t.length
        · focus
            refine xc_seq ?_
            refine xc_region ?_
            refine xo_rd (rd_move rfl) rfl ?_
            refine xo_rd (rd_move rfl) rfl ?_
            refine xo_rd (rd_indexAddr rfl rfl (by omega) (by omega)) rfl ?_
            refine xo_rd (rd_load1 rfl (hcell 0 _ _ (show (a : Int) = a + (0 : Nat) by omega) rfl _ (by intro z hz; simp [hz]))) rfl ?_
            refine xo_rd (rd_quon rfl rfl (by omega) (by omega) (by omega) (by omega)) rfl ?_
            refine xo_rd (rd_remn rfl rfl (by omega) (by omega)) rfl ?_
            refine xo_rd (rd_eql rfl rfl) rfl ?_
            refine xo_nil ?_
            refine xq_seq ?_
            refine xc_dec rfl (fun hw1 => ?_) (fun hw1 => (by exfalso; omega))
            refine xc_seq ?_
            refine xc_seq ?_
            refine xc_region ?_
            refine xo_rd (rd_move rfl) rfl ?_
            refine xo_rd (rd_move rfl) rfl ?_
            refine xo_rd (rd_len rfl) rfl ?_
            refine xo_rd (rd_lss rfl rfl) rfl ?_
            refine xo_rd (rd_move rfl) rfl ?_
            refine xo_dec 79 rfl (fun hw2 => ?_) (fun hw2 => ?_)
            refine xo_gskip rfl rfl rfl rfl ?_
            refine xo_gskip rfl rfl rfl rfl ?_
            refine xo_gskip rfl rfl rfl rfl ?_
            refine xo_gskip rfl rfl rfl rfl ?_
            refine xo_rd (rd_pickt rfl rfl) rfl ?_
            refine xo_nil ?_
            refine xq_seq ?_
            refine xc_condt rfl ?_
            refine xc_seq ?_
            refine xc_region ?_
            refine xo_rd (rd_assign rfl) rfl ?_
            refine xo_rd (rd_assign rfl) rfl ?_
            refine xo_nil ?_
            refine xq_seq ?_
            refine xc_ret ?_
            refine xq_then_ret ?_
            refine xq_then_ret ?_
            refine xq_block_ret ?_
            refine xq_then_ret ?_
            refine xq_block_ret ?_
            refine xq_then_ret ?_
            rotate_left
            refine xo_grd rfl rfl (rd_move rfl) rfl ?_
            refine xo_grd rfl rfl (rd_move rfl) rfl ?_
            refine xo_grd rfl rfl (rd_addn rfl rfl (by omega) (by omega)) rfl ?_
            refine xo_grd rfl rfl (rd_eql rfl rfl) rfl ?_
            refine xo_rd (rd_pickf rfl rfl) rfl ?_
            refine xo_nil ?_
            refine xq_seq ?_
            refine xc_dec rfl (fun hw3 => ?_) (fun hw3 => (by exfalso; omega))
            refine xc_seq ?_
            refine xc_region ?_
            refine xo_rd (rd_assign rfl) rfl ?_
            refine xo_rd (rd_assign rfl) rfl ?_
            refine xo_nil ?_
            refine xq_seq ?_
            refine xc_ret ?_
            refine xq_then_ret ?_
            refine xq_then_ret ?_
            refine xq_block_ret ?_
            refine xq_then_ret ?_
            refine xq_block_ret ?_
            refine xq_then_ret ?_
            rotate_left
          all_goals exact xq_sub (hsub.trans (List.sublist_cons_self _ _)) (xq_ret2 (.inl rfl) Try.results10 rfl rfl (hg 21 (by unfold takeT; rw [if_neg (by omega), if_neg hff, if_neg (by omega), if_pos h32, if_pos (by rcases hk0 with h | h; exact .inr (.inl h); exact .inl h)]) (by decide)))
        · have hz := hbt t[kk - 1] (List.getElem_mem _)
          have hzg : t.getD (kk - 1) 0 = t[kk - 1] := getD_get (by omega)
          have hzc : (b0 :: b1 :: b2 :: b3 :: t)[kk + 3]? = some t[kk - 1] := by
            obtain ⟨j, rfl⟩ : ∃ j, kk = j + 1 := ⟨kk - 1, by omega⟩
            show t[j]? = _
            rw [List.getElem?_eq_getElem (by omega)]; rfl
          generalize t[kk - 1] = z at *
          unfold By at hz
          focus
            refine xc_seq ?_
            refine xc_region ?_
            refine xo_rd (rd_move rfl) rfl ?_
            refine xo_rd (rd_move rfl) rfl ?_
            refine xo_rd (rd_indexAddr rfl rfl (by omega) (by omega)) rfl ?_
            refine xo_rd (rd_load1 rfl (hcell 0 _ _ (show (a : Int) = a + (0 : Nat) by omega) rfl _ (by intro z hz; simp [hz]))) rfl ?_
            refine xo_rd (rd_quon rfl rfl (by omega) (by omega) (by omega) (by omega)) rfl ?_
            refine xo_rd (rd_remn rfl rfl (by omega) (by omega)) rfl ?_
            refine xo_rd (rd_eql rfl rfl) rfl ?_
            refine xo_nil ?_
            refine xq_seq ?_
            refine xc_dec rfl (fun hw1 => ?_) (fun hw1 => (by exfalso; omega))
            refine xc_seq ?_
            refine xc_seq ?_
            refine xc_region ?_
            refine xo_rd (rd_move rfl) rfl ?_
            refine xo_rd (rd_move rfl) rfl ?_
            refine xo_rd (rd_len rfl) rfl ?_
            refine xo_rd (rd_lss rfl rfl) rfl ?_
            refine xo_rd (rd_move rfl) rfl ?_
            refine xo_dec 79 rfl (fun hw2 => (by exfalso; omega)) (fun hw2 => ?_)
            refine xo_grd rfl rfl (rd_move rfl) rfl ?_
            refine xo_grd rfl rfl (rd_move rfl) rfl ?_
            refine xo_grd rfl rfl (rd_addn rfl rfl (by omega) (by omega)) rfl ?_
            refine xo_grd rfl rfl (rd_eql rfl rfl) rfl ?_
            refine xo_rd (rd_pickf rfl rfl) rfl ?_
            refine xo_nil ?_
            refine xq_seq ?_
            refine xc_dec rfl (fun hw3 => (by exfalso; omega)) (fun hw3 => ?_)
            refine xc_skip ?_
            refine xq_seq ?_
            refine xc_seq ?_
            refine xc_region ?_
            refine xo_rd (rd_move rfl) rfl ?_
            refine xo_rd (rd_move rfl) rfl ?_
            refine xo_rd (rd_subn rfl rfl (by omega) (by omega)) rfl ?_
            refine xo_rd (rd_indexAddr rfl rfl (by omega) (by omega)) rfl ?_
            refine xo_rd (rd_load1 rfl (hcell (kk + 3) _ _ (show ((a + 4 + kk : Nat) : Int) - 1 = a + (kk + 3 : Nat) by omega) hzc _ (by intro z hz; simp [hz]))) rfl ?_
            refine xo_rd (rd_fieldAddr rfl) rfl ?_
            refine xo_ef rfl (ef_store1 [] _ rfl rfl (by first | rfl | assumption) rfl rfl rfl ?_)
            refine xo_nil ?_
            refine xq_seq ?_
            refine xc_seq ?_
            refine xc_region ?_
            refine xo_rd (rd_fieldAddr rfl) rfl ?_
            refine xo_rd (rd_load1 rfl (Cl.o0 rfl)) rfl ?_
            refine xo_rd (rd_eql rfl rfl) rfl ?_
            refine xo_rd (rd_move rfl) rfl ?_
            refine xo_dec 94 rfl (fun hw4 => ?_) (fun hw4 => ?_)
            refine xo_gskip rfl rfl rfl rfl ?_
            refine xo_gskip rfl rfl rfl rfl ?_
            refine xo_gskip rfl rfl rfl rfl ?_
            refine xo_gskip rfl rfl rfl rfl ?_
            refine xo_rd (rd_pickt rfl rfl) rfl ?_
            refine xo_rd (rd_move rfl) rfl ?_
            refine xo_gskip rfl rfl rfl rfl ?_
            refine xo_gskip rfl rfl rfl rfl ?_
            refine xo_gskip rfl rfl rfl rfl ?_
            refine xo_gskip rfl rfl rfl rfl ?_
            refine xo_gskip rfl rfl rfl rfl ?_
            refine xo_gskip rfl rfl rfl rfl ?_
            refine xo_gskip rfl rfl rfl rfl ?_
            refine xo_gskip rfl rfl rfl rfl ?_
            refine xo_rd (rd_pickt rfl rfl) rfl ?_
            refine xo_nil ?_
            refine xq_seq ?_
            refine xc_condt rfl ?_
            refine xc_seq ?_
            refine xc_region ?_
            refine xo_rd (rd_assign rfl) rfl ?_
            refine xo_rd (rd_assign rfl) rfl ?_
            refine xo_nil ?_
            refine xq_seq ?_
            refine xc_ret ?_
            refine xq_then_ret ?_
            refine xq_block_ret ?_
            refine xq_then_ret ?_
            refine xq_block_ret ?_
            refine xq_then_ret ?_
            rotate_left
            refine xo_grd rfl rfl (rd_fieldAddr rfl) rfl ?_
            refine xo_grd rfl rfl (rd_load1 rfl (Cl.o0 rfl)) rfl ?_
            refine xo_grd rfl rfl (rd_remn rfl rfl (by omega) (by omega)) rfl ?_
            refine xo_grd rfl rfl (rd_neq rfl rfl) rfl ?_
            refine xo_rd (rd_pickf rfl rfl) rfl ?_
            refine xo_rd (rd_move rfl) rfl ?_
            refine xo_ndec 100 rfl (fun hw5 => ?_) (fun hw5 => ?_)
            refine xo_gskip rfl rfl rfl rfl ?_
            refine xo_gskip rfl rfl rfl rfl ?_
            refine xo_gskip rfl rfl rfl rfl ?_
            refine xo_gskip rfl rfl rfl rfl ?_
            refine xo_gskip rfl rfl rfl rfl ?_
            refine xo_gskip rfl rfl rfl rfl ?_
            refine xo_gskip rfl rfl rfl rfl ?_
            refine xo_gskip rfl rfl rfl rfl ?_
            refine xo_rd (rd_pickt rfl rfl) rfl ?_
            refine xo_nil ?_
            refine xq_seq ?_
            refine xc_condt rfl ?_
            refine xc_seq ?_
            refine xc_region ?_
            refine xo_rd (rd_assign rfl) rfl ?_
            refine xo_rd (rd_assign rfl) rfl ?_
            refine xo_nil ?_
            refine xq_seq ?_
            refine xc_ret ?_
            refine xq_then_ret ?_
            refine xq_block_ret ?_
            refine xq_then_ret ?_
            refine xq_block_ret ?_
            refine xq_then_ret ?_
            rotate_left
            refine xo_grd rfl rfl (rd_fieldAddr rfl) rfl ?_
            refine xo_grd rfl rfl (rd_load1 rfl (Cl.o0 rfl)) rfl ?_
            refine xo_grd rfl rfl (rd_convn rfl (by omega) (by omega)) rfl ?_
            refine xo_grd rfl rfl (rd_move rfl) rfl ?_
            refine xo_grd rfl rfl (rd_move rfl) rfl ?_
            refine xo_grd rfl rfl (rd_subn rfl rfl (by omega) (by omega)) rfl ?_
            refine xo_grd rfl rfl (rd_subn rfl rfl (by omega) (by omega)) rfl ?_
            refine xo_grd rfl rfl (rd_gtr rfl rfl) rfl ?_
            refine xo_rd (rd_pickf rfl rfl) rfl ?_
            refine xo_nil ?_
            refine xq_seq ?_
            refine xc_dec rfl (fun hw6 => ?_) (fun hw6 => ?_)
            refine xc_seq ?_
            refine xc_region ?_
            refine xo_rd (rd_assign rfl) rfl ?_
            refine xo_rd (rd_assign rfl) rfl ?_
            refine xo_nil ?_
            refine xq_seq ?_
            refine xc_ret ?_
            refine xq_then_ret ?_
            refine xq_block_ret ?_
            refine xq_then_ret ?_
            refine xq_block_ret ?_
            refine xq_then_ret ?_
            rotate_left
            refine xc_skip ?_
            rotate_left
          iterate 3
            · exact xq_sub (hsub.trans (List.sublist_cons_self _ _)) (xq_ret2 (.inl rfl) Try.results10 rfl rfl (hg 21 (by unfold takeT; rw [if_neg (by omega), if_neg hff, if_neg (by omega), if_pos h32, hzg, if_pos (by omega)]) (by decide)))
          refine xq_joined ((z, kk - z.toNat) : Int × Nat) ⟨?_, rfl, hz, by dsimp only; omega⟩ rfl (by repeat (first | exact keep_nil | refine keep_cons rfl ?_))
          dsimp only
          unfold takeT
          rw [if_neg (by omega), if_neg hff, if_neg (by omega), if_pos h32, hzg, if_neg (by omega), List.drop_of_length_le (by omega)]
      · focus
          refine xc_seq ?_
          refine xc_region ?_
          refine xo_rd (rd_move rfl) rfl ?_
          refine xo_rd (rd_move rfl) rfl ?_
          refine xo_rd (rd_indexAddr rfl rfl (by omega) (by omega)) rfl ?_
          refine xo_rd (rd_load1 rfl (hcell 0 _ _ (show (a : Int) = a + (0 : Nat) by omega) rfl _ (by intro z hz; simp [hz]))) rfl ?_
          refine xo_rd (rd_quon rfl rfl (by omega) (by omega) (by omega) (by omega)) rfl ?_
          refine xo_rd (rd_remn rfl rfl (by omega) (by omega)) rfl ?_
          refine xo_rd (rd_eql rfl rfl) rfl ?_
          refine xo_nil ?_
          refine xq_seq ?_
          refine xc_dec rfl (fun hw1 => (by exfalso; omega)) (fun hw1 => ?_)
          refine xc_skip ?_
        refine xq_joined ((0, kk) : Int × Nat) ⟨?_, rfl, (⟨by decide, by decide⟩ : By 0), by dsimp only; omega⟩ rfl (by repeat (first | exact keep_nil | refine keep_cons rfl ?_))
        dsimp only
        unfold takeT
        rw [if_neg (by omega), if_neg hff, if_neg (by omega), if_neg h32]
    · rintro ⟨pd, n'⟩ ⟨ht, hn, hpd, hpk⟩
      dsimp only at ht hn hpd hpk ⊢
      have hpd0 := hpd
      unfold By at hpd
      have hnl : (t.take n').length = n' := by rw [List.length_take]; omega
      have hap : ∀ L', (∀ z, z ∈ L → z ∈ L') → Rs W L' (slp (some ⟨b, o, none⟩) c ((a : Int) + 4).toNat 1) (ints .u8 (t.take n')) := fun L' h => by
        rw [show ((a : Int) + 4).toNat = a + 4 from by omega]
        have h1 := (hr.mono h).slp c (a + 4) (by rw [ints_len]; omega)
        rw [← ints_drop, ← List.drop_drop, hd] at h1
        exact Rs.ints_take h1 n'
      have hX : ((((a + 4 + kk : Nat) : Int)) - pd).toNat - ((a : Int) + 4).toNat = n' := by omega
      refine xc_join (ι := Pb) (fun x => x.q = ⟨b0 % 32, b1, t.take n', pd⟩ ∧ x.Ok) (fun x => (r7, .cells x.enc.toArray 46 (0, 0)) :: (l ++ (bls xs ++ (x.l ++ L)))) (fun _ => [(0, .slice (some ⟨b, o, none⟩) m c), (4, .slice s xs.length k), (6, .int .i64 ((a + 4 + kk : Nat) : Int)), (7, .pointer (some ⟨r7, 0, none⟩))]) ?_ ?_
      · skip
        focus
          refine xc_drawM [0, 1, 0, 0, 8, 0, 0, 64, 128, 288, 532, 1026, 4095, 8191] [0, 1, 0, 0, 8, 0, 0, 64, 128, 288, 532, 1026, 4095, 8191] [] (by kernel_rfl) (by kernel_rfl) (by kernel_rfl) ?_
          refine xm_take 0 (m' := 1) rfl (by kernel_rfl) (by first | exact Sb.refl | exact Sb.nil | (repeat (first | exact Sb.nil | exact Sb.refl | exact Sb.app0 | apply Sb.keep | apply Sb.keepApp | apply Sb.cons | apply Sb.app))) (rd_fieldAddr rfl) rfl (by kernel_rfl) ?_
          refine xm_take 2 (m' := 5) rfl (by kernel_rfl) (by first | exact Sb.refl | exact Sb.nil | (repeat (first | exact Sb.nil | exact Sb.refl | exact Sb.app0 | apply Sb.keep | apply Sb.keepApp | apply Sb.cons | apply Sb.app))) (rd_move rfl) rfl (by kernel_rfl) ?_
          refine xm_take 3 (m' := 13) rfl (by kernel_rfl) (by first | exact Sb.refl | exact Sb.nil | (repeat (first | exact Sb.nil | exact Sb.refl | exact Sb.app0 | apply Sb.keep | apply Sb.keepApp | apply Sb.cons | apply Sb.app))) (rd_move rfl) rfl (by kernel_rfl) ?_
          refine xm_take 4 (m' := 29) rfl (by kernel_rfl) (by first | exact Sb.refl | exact Sb.nil | (repeat (first | exact Sb.nil | exact Sb.refl | exact Sb.app0 | apply Sb.keep | apply Sb.keepApp | apply Sb.cons | apply Sb.app))) (rd_addn rfl rfl (by omega) (by omega)) rfl (by kernel_rfl) ?_
          refine xm_take 5 (m' := 61) rfl (by kernel_rfl) (by first | exact Sb.refl | exact Sb.nil | (repeat (first | exact Sb.nil | exact Sb.refl | exact Sb.app0 | apply Sb.keep | apply Sb.keepApp | apply Sb.cons | apply Sb.app))) (rd_move rfl) rfl (by kernel_rfl) ?_
          refine xm_take 6 (m' := 125) rfl (by kernel_rfl) (by first | exact Sb.refl | exact Sb.nil | (repeat (first | exact Sb.nil | exact Sb.refl | exact Sb.app0 | apply Sb.keep | apply Sb.keepApp | apply Sb.cons | apply Sb.app))) (rd_fieldAddr rfl) rfl (by kernel_rfl) ?_
          refine xm_two 1 7 (mi := 127) (mk := 253) rfl rfl (by kernel_rfl) rfl rfl (by kernel_rfl) (by kernel_rfl) (ef_rd (rd_load1 rfl (Cl.o0 rfl)) ⟨(by first | exact Sb.refl | exact Sb.nil | (repeat (first | exact Sb.nil | exact Sb.refl | exact Sb.app0 | apply Sb.keep | apply Sb.keepApp | apply Sb.cons | apply Sb.app))), ?_⟩) (ef_rd (rd_load1 rfl (Cl.o0 rfl)) ⟨(by first | exact Sb.refl | exact Sb.nil | (repeat (first | exact Sb.nil | exact Sb.refl | exact Sb.app0 | apply Sb.keep | apply Sb.keepApp | apply Sb.cons | apply Sb.app))), ?_⟩)
          refine xm_one 7 (m' := 255) rfl (by kernel_rfl) rfl (by kernel_rfl) (ef_rd (rd_load1 rfl (Cl.o0 rfl)) ?_)
          refine ⟨(by first | exact Sb.refl | exact Sb.nil | (repeat (first | exact Sb.nil | exact Sb.refl | exact Sb.app0 | apply Sb.keep | apply Sb.keepApp | apply Sb.cons | apply Sb.app))), ?_⟩
          refine xm_take 8 (m' := 511) rfl (by kernel_rfl) (by first | exact Sb.refl | exact Sb.nil | (repeat (first | exact Sb.nil | exact Sb.refl | exact Sb.app0 | apply Sb.keep | apply Sb.keepApp | apply Sb.cons | apply Sb.app))) (rd_convn rfl (by omega) (by omega)) rfl (by kernel_rfl) ?_
          refine xm_take 9 (m' := 1023) rfl (by kernel_rfl) (by first | exact Sb.refl | exact Sb.nil | (repeat (first | exact Sb.nil | exact Sb.refl | exact Sb.app0 | apply Sb.keep | apply Sb.keepApp | apply Sb.cons | apply Sb.app))) (rd_subn rfl rfl (by omega) (by omega)) rfl (by kernel_rfl) ?_
          refine xm_take 10 (m' := 2047) rfl (by kernel_rfl) (by first | exact Sb.refl | exact Sb.nil | (repeat (first | exact Sb.nil | exact Sb.refl | exact Sb.app0 | apply Sb.keep | apply Sb.keepApp | apply Sb.cons | apply Sb.app))) (rd_slLH rfl rfl rfl (by omega) (by omega) (by omega)) rfl (by kernel_rfl) ?_
          refine xm_one 11 (m' := 4095) rfl (by kernel_rfl) rfl (by kernel_rfl) (ef_appendS [_] (l ++ (bls xs ++ L)) [] (news := ints .u8 (t.take n')) rfl rfl SlO.nil rfl (hap _ (by intro z hz; simp [hz])) (by rw [ints_len]; omega) (ints_one _ _) (by decide) (by omega) (by omega) fun q' k' l' hO' hk' => ?_)
          refine ⟨(by first | exact Sb.refl | exact Sb.nil | (repeat (first | exact Sb.nil | exact Sb.refl | exact Sb.app0 | apply Sb.keep | apply Sb.keepApp | apply Sb.cons | apply Sb.app))), ?_⟩
          refine xm_take 12 (m' := 8191) rfl (by kernel_rfl) (by first | exact Sb.refl | exact Sb.nil | (repeat (first | exact Sb.nil | exact Sb.refl | exact Sb.app0 | apply Sb.keep | apply Sb.keepApp | apply Sb.cons | apply Sb.app))) (rd_fieldAddr rfl) rfl (by kernel_rfl) ?_
          refine xm_one 13 (m' := 16383) rfl (by kernel_rfl) rfl (by kernel_rfl) (ef_store1 [] _ rfl rfl (by first | rfl | assumption) rfl rfl rfl ?_)
          refine ⟨(by first | exact Sb.refl | exact Sb.nil | (repeat (first | exact Sb.nil | exact Sb.refl | exact Sb.app0 | apply Sb.keep | apply Sb.keepApp | apply Sb.cons | apply Sb.app))), ?_⟩
          refine xm_done (by kernel_rfl) ?_
          rotate_left
          refine xm_take 8 (m' := 509) rfl (by kernel_rfl) (by first | exact Sb.refl | exact Sb.nil | (repeat (first | exact Sb.nil | exact Sb.refl | exact Sb.app0 | apply Sb.keep | apply Sb.keepApp | apply Sb.cons | apply Sb.app))) (rd_convn rfl (by omega) (by omega)) rfl (by kernel_rfl) ?_
          refine xm_take 9 (m' := 1021) rfl (by kernel_rfl) (by first | exact Sb.refl | exact Sb.nil | (repeat (first | exact Sb.nil | exact Sb.refl | exact Sb.app0 | apply Sb.keep | apply Sb.keepApp | apply Sb.cons | apply Sb.app))) (rd_subn rfl rfl (by omega) (by omega)) rfl (by kernel_rfl) ?_
          refine xm_take 10 (m' := 2045) rfl (by kernel_rfl) (by first | exact Sb.refl | exact Sb.nil | (repeat (first | exact Sb.nil | exact Sb.refl | exact Sb.app0 | apply Sb.keep | apply Sb.keepApp | apply Sb.cons | apply Sb.app))) (rd_slLH rfl rfl rfl (by omega) (by omega) (by omega)) rfl (by kernel_rfl) ?_
          refine xm_one 1 (m' := 2047) rfl (by kernel_rfl) rfl (by kernel_rfl) (ef_rd (rd_load1 rfl (Cl.o0 rfl)) ?_)
          refine ⟨(by first | exact Sb.refl | exact Sb.nil | (repeat (first | exact Sb.nil | exact Sb.refl | exact Sb.app0 | apply Sb.keep | apply Sb.keepApp | apply Sb.cons | apply Sb.app))), ?_⟩
          refine xm_one 11 (m' := 4095) rfl (by kernel_rfl) rfl (by kernel_rfl) (ef_appendS [_] (l ++ (bls xs ++ L)) [] (news := ints .u8 (t.take n')) rfl rfl SlO.nil rfl (hap _ (by intro z hz; simp [hz])) (by rw [ints_len]; omega) (ints_one _ _) (by decide) (by omega) (by omega) fun q' k' l' hO' hk' => ?_)
          refine ⟨(by first | exact Sb.refl | exact Sb.nil | (repeat (first | exact Sb.nil | exact Sb.refl | exact Sb.app0 | apply Sb.keep | apply Sb.keepApp | apply Sb.cons | apply Sb.app))), ?_⟩
          refine xm_take 12 (m' := 8191) rfl (by kernel_rfl) (by first | exact Sb.refl | exact Sb.nil | (repeat (first | exact Sb.nil | exact Sb.refl | exact Sb.app0 | apply Sb.keep | apply Sb.keepApp | apply Sb.cons | apply Sb.app))) (rd_fieldAddr rfl) rfl (by kernel_rfl) ?_
          refine xm_one 13 (m' := 16383) rfl (by kernel_rfl) rfl (by kernel_rfl) (ef_store1 [] _ rfl rfl (by first | rfl | assumption) rfl rfl rfl ?_)
          refine ⟨(by first | exact Sb.refl | exact Sb.nil | (repeat (first | exact Sb.nil | exact Sb.refl | exact Sb.app0 | apply Sb.keep | apply Sb.keepApp | apply Sb.cons | apply Sb.app))), ?_⟩
          refine xm_done (by kernel_rfl) ?_
          rotate_left
        all_goals rw [hX] at hO'
        all_goals rw [hX]
        all_goals rw [Nat.zero_add n'] at hO'
        all_goals rw [Nat.zero_add n']
        all_goals refine xq_permT [_] (perm_mv l' l (bls xs) L) ?_
        all_goals refine xq_joined (⟨⟨b0 % 32, b1, t.take n', pd⟩, q', k', l'⟩ : Pb) ⟨rfl, by unfold Pb.Ok; dsimp only; rw [hnl]; exact hO'⟩ ?_ (by repeat (first | exact keep_nil | refine keep_cons rfl ?_))
        all_goals (unfold Pb.enc Pc.enc; dsimp only; rw [hnl]; rfl)
      · rintro x ⟨hxq, hxo⟩
        focus
          refine xc_seq ?_
          refine xc_region ?_
          refine xo_rd (rd_move rfl) rfl ?_
          refine xo_rd (rd_loadB rfl Kn.o0 (by rfl)) rfl ?_
          refine xo_ef rfl (ef_sliceA (vs := x.enc) rfl rfl (by rw [Pb.len]; decide) (by rw [Pb.len]; decide) fun r125 => ?_)
          refine xo_ef rfl (ef_appendS [_, _] (bls xs ++ (x.l ++ L)) l (news := x.enc) rfl rfl hsl rfl (Rs.fresh (List.Mem.head _)) rfl rfl (by decide) (by omega) (by omega) fun s' k' l' hO' hk' => ?_)
          refine xo_rd (rd_assign rfl) rfl ?_
          refine xo_nil ?_
          refine xq_seq ?_
          refine xc_region ?_
          refine xo_rd (rd_move rfl) rfl ?_
          refine xo_rd (rd_assign rfl) rfl ?_
          refine xo_nil ?_
          refine xq_block ?_
        obtain ⟨K', rfl⟩ : ∃ K', K = K' + 1 := ⟨K - 1, by omega⟩
        have hl : (xs ++ [x]).length = xs.length + 1 := by simp
        have ht' : takeP (b0 :: b1 :: b2 :: b3 :: t) f = (0, x.q, t.drop kk) := by
          show takeT b0 b1 (4 * vl [b2, b3]).toNat t f = _
          rw [hw, ← hkk, ht, hxq]
        have hne' : ¬ (b0 :: b1 :: b2 :: b3 :: t = [] ∧ f = false) := fun h => by cases h.1
        have hdd : bs.drop (a + 4 + kk) = t.drop kk := by rw [show a + 4 + kk = a + (4 + kk) from by omega, ← List.drop_drop, hd, Nat.add_comm 4 kk]; rfl
        refine xq_sub (List.sublist_append_right [_, _] _) (xq_roundI (⟨K', xs ++ [x], a + 4 + kk, s', k', l'⟩ : RpS) ⟨?_, by dsimp only; omega, by dsimp only; omega, by dsimp only; rw [hl]; omega, ?_, ?_, ?_, ?_⟩ (by dsimp only; omega) ?_ ?_)
        · dsimp only
          rw [heq, comb_ok ht' hne', List.map_append, List.map_singleton, hdd, show (xs ++ [x]).isEmpty = false from by cases xs <;> rfl]
        · dsimp only
          rw [show (xs ++ [x]).isEmpty = false from by cases xs <;> rfl]; exact (decide_eq_false (by omega)).symm
        · intro z hz
          rcases List.mem_append.1 hz with h | h
          · exact hok z h
          · rw [List.mem_singleton.1 h]; exact hxo
        · intro z hz
          rcases List.mem_append.1 hz with h | h
          · exact hrg z h
          · rw [List.mem_singleton.1 h, hxq]
            refine ⟨?_, g1, By.take hbt _, hpd0⟩
            unfold By; dsimp only; omega
        · dsimp only
          rw [hl, List.flatMap_append, List.flatMap_singleton]; exact hO'
        · dsimp only
          rw [bls_snoc, List.append_assoc]
        · dsimp only
          rw [hl]
          exact (by repeat (first | exact keep_nil | refine keep_cons rfl ?_))
  · have ham : a = m := by omega
    have hdn : bs.drop a = [] := List.drop_eq_nil_iff.2 (by omega)
    rw [show splitL (bs.length + 1) true bs = (xs.map Pb.q, 0) from by rw [heq, ← hf, decide_eq_false (show ¬ a = 0 by omega), hdn]; exact comb_end]
    focus
      refine xc_seq ?_
      refine xc_seq ?_
      refine xc_region ?_
      refine xo_rd (rd_move rfl) rfl ?_
      refine xo_rd (rd_move rfl) rfl ?_
      refine xo_rd (rd_len rfl) rfl ?_
      refine xo_rd (rd_lss rfl rfl) rfl ?_
      refine xo_rd (rd_move rfl) rfl ?_
      refine xo_dec 12 rfl (fun h1 => (by exfalso; omega)) (fun h1 => ?_)
      refine xo_grd rfl rfl (rd_move rfl) rfl ?_
      refine xo_grd rfl rfl (rd_eql rfl rfl) rfl ?_
      refine xo_rd (rd_pickf rfl rfl) rfl ?_
      refine xo_nil ?_
      refine xq_seq ?_
      refine xc_dec rfl (fun h2 => (by exfalso; omega)) (fun h2 => ?_)
      refine xc_exit ?_
      refine xq_then_exit ?_
      refine xq_then_exit ?_
      refine xq_block_hit ?_
      refine xq_seq ?_
      refine xc_seq ?_
      refine xc_region ?_
      refine xo_rd (rd_move rfl) rfl ?_
      refine xo_rd (rd_assign rfl) rfl ?_
      refine xo_rd (rd_assign rfl) rfl ?_
      refine xo_nil ?_
      refine xq_seq ?_
      refine xc_ret ?_
    exact xq_ret2 (.inl rfl) Try.results10 rfl rfl ⟨xs, s, k, l, rfl, rfl, hok, hrg, hsl, rfl⟩
end Go.Proofs.Ytohlaabclifbfaa.X
