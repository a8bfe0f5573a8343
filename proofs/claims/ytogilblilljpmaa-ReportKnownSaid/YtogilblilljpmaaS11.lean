/-
  Texts of my own, put together: walks and laws for this seat. No condition.
-/
import Derived.Test.YtogilblilljpmaaS10
import Derived.Test.YtogilblilljpmaaS2
import Derived.Test.YtogilblilljpmaaS1
import Derived.ProofKit
import Derived.OpenShut
import Derived.ShutString
import Derived.ChangeOld
import Derived.Carry
/-
  The report layer: ReportHears over any blocks: a walk of my own.
-/
namespace Go.Proofs.Ytogilblilljpmaa.X
open Go Go.RowKit
set_option linter.unusedVariables false
set_option linter.unusedSimpArgs false
set_option maxHeartbeats 4000000 in
theorem xf_ReportHears {W : World} {L : List Blk} (p : Option Addr) (n c : Nat) (zs : List Int) (hz : zs.length = n) (hp : Rs W L p (ints .u64 zs)) (hzs : ∀ z, z ∈ zs → U8 z) (q : Option Addr) (m d : Nat) (ys : List Int) (hy : ys.length = m) (hq : Rs W L q (ints .u64 ys)) (hys : ∀ z, z ∈ ys → U8 z)
    (x : Bk) (now : Int) (hnow : U8 now) (hn : n ≤ 20) (hm : m ≤ 20) : XF Try.prog W 4 #[.slice p n c, .slice q m d, .agg x.enc.toArray, .int .u64 now] L (fun v L' => v = .bool true ∧ L' = L) := by
  refine xf_enter (args := [_, _, _, _]) Try.func4 rfl Try.ntmps4 rfl ?_
  focus
    refine xc_seq ?_
    refine xc_region ?_
    refine xo_ef rfl (ef_box rfl fun r6 => ?_)
    refine xo_rd (rd_assign rfl) rfl ?_
    refine xo_nil ?_
    refine xq_seq ?_
    refine xc_seq ?_
    refine xc_seq ?_
    refine xc_region ?_
    refine xo_rd (rd_move rfl) rfl ?_
    refine xo_rd (rd_len rfl) rfl ?_
    refine xo_rd (rd_gtr rfl rfl) rfl ?_
    refine xo_rd (rd_move rfl) rfl ?_
    refine xo_dec 17 rfl (fun hv1 => (by exfalso; omega)) (fun hv1 => ?_)
    refine xo_grd rfl rfl (rd_move rfl) rfl ?_
    refine xo_grd rfl rfl (rd_len rfl) rfl ?_
    refine xo_grd rfl rfl (rd_gtr rfl rfl) rfl ?_
    refine xo_rd (rd_pickf rfl rfl) rfl ?_
    refine xo_nil ?_
    refine xq_seq ?_
    refine xc_dec rfl (fun hv2 => (by exfalso; omega)) (fun hv2 => ?_)
    refine xc_skip ?_
    refine xq_seq ?_
    refine xc_seq ?_
    refine xc_region ?_
    refine xo_ef rfl (ef_call rfl (XF.mono (xf_newRemote) ?_))
    rintro v L' ⟨b, rfl, rfl⟩
    refine xo_rd (rd_assign rfl) rfl ?_
    refine xo_nil ?_
    refine xq_seq ?_
    refine xc_seq ?_
    refine xc_region ?_
    refine xo_ef rfl (ef_alloc fun r10 => ?_)
    refine xo_nil ?_
    refine xq_seq ?_
  focus
    refine xc_seq ?_
    refine xc_region ?_
    refine xo_rd (rd_loadB rfl Kn.o2 (by rfl)) rfl ?_
  refine xo_ef rfl (ef_sliceA (vs := x.enc) rfl rfl (by show (7 : Nat) ≠ 0; decide) (by show (7 : Nat) ≤ 1000; decide) fun r25 => ?_)
  focus
    refine xo_ef rfl (ef_call rfl (XF.mono (xf_dBlocks (some ⟨r25, 0, none⟩) 1 1 [x] rfl (rs1 (List.Mem.head _)) (by decide)) ?_))
    rintro v L' ⟨s1, k1, l1, rfl, hO1, rfl⟩
  obtain ⟨b1, o1, hp1, hc1⟩ := (hO1.rs (L := l1) (fun _ h => h) : Rs W l1 s1 ([x].flatMap Bk.enc)).rows Bk.len (by decide) (Nat.succ_pos 0)
  subst hp1
  have hcX : ∀ L, (∀ z, z ∈ l1 → z ∈ L) → ∀ (j : Nat) (u : Value), x.enc[j]? = some u → Cl W L b1 (o1 + Int.toNat 0 * 7 + j) u := fun L h j u hj => (hc1 0 (Nat.succ_pos 0) j u hj).mono h
  focus
    refine xo_rd (rd_indexAddr rfl rfl (by omega) (by omega)) rfl ?_
    refine xo_rd (rd_loadA (vs := x.enc) rfl rfl (hcX _ (by intro z hz; simp [hz]))) rfl ?_
    refine xo_ef rfl (ef_alloc fun r11 => ?_)
    refine xo_ef rfl (ef_storeB [] _ rfl rfl (by first | rfl | assumption) rfl rfl rfl ?_)
    refine xo_nil ?_
    refine xq_seq ?_
    refine xc_seq ?_
    refine xc_seq ?_
    refine xc_region ?_
    refine xo_rd (rd_assign rfl) rfl ?_
    refine xo_nil ?_
    refine xq_seq ?_
    refine xc_block ?_
  refine xc_sb (M := (r11, .cells x.enc.toArray 35 (0, 0)) :: (r10, .cells Rm.zero.enc.toArray 34 (0, 0)) :: (b, .cells Rm.zero.enc.toArray 94 (0, 0)) :: (r6, .cells x.enc.toArray 30 (0, 0)) :: L) (by first | exact Sb.refl | exact Sb.nil | (repeat (first | exact Sb.nil | exact Sb.refl | exact Sb.app0 | apply Sb.keep | apply Sb.keepApp | apply Sb.cons | apply Sb.app))) ?_
  refine xc_loopI (ι := Nat × Rm) (fun z => z.1 ≤ n + 1 ∧ U8 z.2.ti) (fun z => n + 1 - z.1) (fun z => (r11, .cells x.enc.toArray 35 (0, 0)) :: (r10, .cells z.2.enc.toArray 34 (0, 0)) :: (b, .cells z.2.enc.toArray 94 (0, 0)) :: (r6, .cells x.enc.toArray 30 (0, 0)) :: L) (fun z => [(0, .slice p n c), (1, .slice q m d), (3, .int .u64 now), (6, .pointer (some ⟨r6, 0, none⟩)), (9, .pointer (some ⟨b, 0, none⟩)), (10, .pointer (some ⟨r10, 0, none⟩)), (11, .pointer (some ⟨r11, 0, none⟩)), (12, .int .i64 z.1)]) (0, .zero) ⟨Nat.zero_le _, u8_0⟩ rfl (by repeat (first | exact keep_nil | refine keep_cons rfl ?_)) ?_
  rintro ⟨i, r⟩ ⟨hi, hr⟩
  dsimp only at hi hr ⊢
  have hr' : U8 r.ti := hr
  by_cases hin : i ≤ n ∧ i ≤ m
  · obtain ⟨hin, him⟩ := hin
    focus
      refine xc_seq ?_
      refine xc_seq ?_
      refine xc_region ?_
      refine xo_rd (rd_move rfl) rfl ?_
      refine xo_rd (rd_move rfl) rfl ?_
      refine xo_rd (rd_len rfl) rfl ?_
      refine xo_rd (rd_leq rfl rfl) rfl ?_
      refine xo_rd (rd_move rfl) rfl ?_
      refine xo_dec 33 rfl (fun hv1 => ?_) (fun hv1 => (by exfalso; omega))
      refine xo_grd rfl rfl (rd_move rfl) rfl ?_
      refine xo_grd rfl rfl (rd_move rfl) rfl ?_
      refine xo_grd rfl rfl (rd_len rfl) rfl ?_
      refine xo_grd rfl rfl (rd_leq rfl rfl) rfl ?_
      refine xo_rd (rd_pickt rfl rfl) rfl ?_
      refine xo_nil ?_
      refine xq_seq ?_
      refine xc_dec rfl (fun hv2 => ?_) (fun hv2 => (by exfalso; omega))
      refine xc_skip ?_
      refine xq_seq ?_
      refine xc_seq ?_
      refine xc_block ?_
      refine xc_seq ?_
      refine xc_region ?_
      refine xo_rd (rd_move rfl) rfl ?_
      refine xo_rd (rd_loadB rfl Kn.o3 (by rfl)) rfl ?_
      refine xo_rd (rd_move rfl) rfl ?_
      refine xo_ef rfl (ef_call rfl (XF.mono (XF.mid [_, _] (xf_block b r x now hr' hnow)) ?_))
      rintro v L' ⟨rfl, rfl⟩
      refine xo_mid [_, _] ?_
    refine xo_ef rfl (ef_sliceA (vs := (hrF r x now).enc) rfl rfl (by show (7 : Nat) ≠ 0; decide) (by show (7 : Nat) ≤ 1000; decide) fun r45 => ?_)
    focus
      refine xo_ef rfl (ef_call rfl (XF.mono (xf_dBlocks (some ⟨r45, 0, none⟩) 1 1 [hrF r x now] rfl (rs1 (List.Mem.head _)) (by decide)) ?_))
      rintro v L' ⟨s2, k2, l2, rfl, hO2, rfl⟩
    obtain ⟨b2, o2, hp2, hc2⟩ := (hO2.rs (L := l2) (fun _ h => h) : Rs W l2 s2 ([hrF r x now].flatMap Bk.enc)).rows Bk.len (by decide) (Nat.succ_pos 0)
    subst hp2
    have hcY : ∀ L, (∀ z, z ∈ l2 → z ∈ L) → ∀ (j : Nat) (u : Value), (hrF r x now).enc[j]? = some u → Cl W L b2 (o2 + Int.toNat 0 * 7 + j) u := fun L h j u hj => (hc2 0 (Nat.succ_pos 0) j u hj).mono h
    focus
      refine xo_rd (rd_indexAddr rfl rfl (by omega) (by omega)) rfl ?_
      refine xo_rd (rd_loadA (vs := (hrF r x now).enc) rfl rfl (hcY _ (by intro z hz; simp [hz]))) rfl ?_
      refine xo_ef rfl (ef_alloc fun r13 => ?_)
      refine xo_ef rfl (ef_storeB [] _ rfl rfl (by first | rfl | assumption) rfl rfl rfl ?_)
      refine xo_nil ?_
      refine xq_seq ?_
    refine xc_sb (M := (r13, .cells (hrF r x now).enc.toArray 35 (0, 0)) :: (r11, .cells x.enc.toArray 35 (0, 0)) :: (r10, .cells r.enc.toArray 34 (0, 0)) :: (b, .cells r.enc.toArray 94 (0, 0)) :: (r6, .cells x.enc.toArray 30 (0, 0)) :: L) (by first | exact Sb.refl | exact Sb.nil | (repeat (first | exact Sb.nil | exact Sb.refl | exact Sb.app0 | apply Sb.keep | apply Sb.keepApp | apply Sb.cons | apply Sb.app))) ?_
    focus
      refine xc_seq ?_
      refine xc_seq ?_
      refine xc_drawML [0, 0, 0, 0, 14, 17] [0, 0, 0, 0, 14, 17] (by kernel_rfl) (by kernel_rfl) (by kernel_rfl) ?_
      refine xm_take 0 (m' := 1) rfl (by kernel_rfl) (by first | exact Sb.refl | exact Sb.nil | (repeat (first | exact Sb.nil | exact Sb.refl | exact Sb.app0 | apply Sb.keep | apply Sb.keepApp | apply Sb.cons | apply Sb.app))) (rd_loadB rfl Kn.o0 (by rfl)) rfl (by kernel_rfl) ?_
      refine xm_take 1 (m' := 3) rfl (by kernel_rfl) (by first | exact Sb.refl | exact Sb.nil | (repeat (first | exact Sb.nil | exact Sb.refl | exact Sb.app0 | apply Sb.keep | apply Sb.keepApp | apply Sb.cons | apply Sb.app))) (rd_loadB rfl Kn.o2 (by rfl)) rfl (by kernel_rfl) ?_
      refine xm_take 2 (m' := 7) rfl (by kernel_rfl) (by first | exact Sb.refl | exact Sb.nil | (repeat (first | exact Sb.nil | exact Sb.refl | exact Sb.app0 | apply Sb.keep | apply Sb.keepApp | apply Sb.cons | apply Sb.app))) (rd_loadB rfl Kn.o1 (by rfl)) rfl (by kernel_rfl) ?_
      refine xm_take 3 (m' := 15) rfl (by kernel_rfl) (by first | exact Sb.refl | exact Sb.nil | (repeat (first | exact Sb.nil | exact Sb.refl | exact Sb.app0 | apply Sb.keep | apply Sb.keepApp | apply Sb.cons | apply Sb.app))) (rd_move rfl) rfl (by kernel_rfl) ?_
      refine xm_one 4 (m' := 31) rfl (by kernel_rfl) rfl (by kernel_rfl) (ef_call rfl (XF.mono (xf_rblock r x now hr' hnow) ?_))
      rintro v L' ⟨rfl, rfl⟩
      refine ⟨(by first | exact Sb.refl | exact Sb.nil | (repeat (first | exact Sb.nil | exact Sb.refl | exact Sb.app0 | apply Sb.keep | apply Sb.keepApp | apply Sb.cons | apply Sb.app))), ?_⟩
      refine xm_take 5 (m' := 63) rfl (by kernel_rfl) (by first | exact Sb.refl | exact Sb.nil | (repeat (first | exact Sb.nil | exact Sb.refl | exact Sb.app0 | apply Sb.keep | apply Sb.keepApp | apply Sb.cons | apply Sb.app))) (rd_ne35 rfl rfl) rfl (by kernel_rfl) ?_
      refine xm_done (by kernel_rfl) ?_
      refine xq_seq ?_
      refine xc_condf rfl ?_
      refine xc_skip ?_
      refine xq_seq ?_
    refine xc_sb (M := (r11, .cells x.enc.toArray 35 (0, 0)) :: (r10, .cells r.enc.toArray 34 (0, 0)) :: (b, .cells r.enc.toArray 94 (0, 0)) :: (r6, .cells x.enc.toArray 30 (0, 0)) :: L) (by first | exact Sb.refl | exact Sb.nil | (repeat (first | exact Sb.nil | exact Sb.refl | exact Sb.app0 | apply Sb.keep | apply Sb.keepApp | apply Sb.cons | apply Sb.app))) ?_
    by_cases hl : i < n ∧ i < m
    · obtain ⟨hl1, hl2⟩ := hl
      obtain ⟨bz, oz, hpz, hcz⟩ := hp.int (i := i) (by omega)
      obtain ⟨bq, oq, hpq, hcq⟩ := hq.int (i := i) (by omega)
      subst hpz hpq
      have uz := hzs _ (List.getElem_mem (l := zs) (n := i) (by omega))
      have uy := hys _ (List.getElem_mem (l := ys) (n := i) (by omega))
      generalize zs[i] = zv at *
      generalize ys[i] = yv at *
      have hcZ : ∀ L', (∀ z, z ∈ L → z ∈ L') → Cl W L' bz (oz + (i : Int).toNat * 1) (.int .u64 zv) := fun L' h => hcz.mono h
      have hcQ : ∀ L', (∀ z, z ∈ L → z ∈ L') → Cl W L' bq (oq + (i : Int).toNat * 1) (.int .u64 yv) := fun L' h => hcq.mono h
      focus
        refine xc_seq ?_
        refine xc_region ?_
        refine xo_rd (rd_move rfl) rfl ?_
        refine xo_rd (rd_move rfl) rfl ?_
        refine xo_rd (rd_len rfl) rfl ?_
        refine xo_rd (rd_lss rfl rfl) rfl ?_
        refine xo_rd (rd_move rfl) rfl ?_
        refine xo_dec 59 rfl (fun hv1 => ?_) (fun hv1 => (by exfalso; omega))
        refine xo_grd rfl rfl (rd_move rfl) rfl ?_
        refine xo_grd rfl rfl (rd_move rfl) rfl ?_
        refine xo_grd rfl rfl (rd_len rfl) rfl ?_
        refine xo_grd rfl rfl (rd_lss rfl rfl) rfl ?_
        refine xo_rd (rd_pickt rfl rfl) rfl ?_
        refine xo_nil ?_
        refine xq_seq ?_
        refine xc_dec rfl (fun hv2 => ?_) (fun hv2 => (by exfalso; omega))
        refine xc_seq ?_
        refine xc_drawM [0, 0, 0, 6, 8, 16, 0, 0, 192, 256, 545] [0, 0, 0, 6, 8, 16, 0, 0, 192, 256, 545] (L) (by kernel_rfl) (by kernel_rfl) (by kernel_rfl) ?_
        refine xm_take 0 (m' := 1) rfl (by kernel_rfl) (by first | exact Sb.refl | exact Sb.nil | (repeat (first | exact Sb.nil | exact Sb.refl | exact Sb.app0 | apply Sb.keep | apply Sb.keepApp | apply Sb.cons | apply Sb.app))) (rd_move rfl) rfl (by kernel_rfl) ?_
        refine xm_take 1 (m' := 3) rfl (by kernel_rfl) (by first | exact Sb.refl | exact Sb.nil | (repeat (first | exact Sb.nil | exact Sb.refl | exact Sb.app0 | apply Sb.keep | apply Sb.keepApp | apply Sb.cons | apply Sb.app))) (rd_move rfl) rfl (by kernel_rfl) ?_
        refine xm_take 2 (m' := 7) rfl (by kernel_rfl) (by first | exact Sb.refl | exact Sb.nil | (repeat (first | exact Sb.nil | exact Sb.refl | exact Sb.app0 | apply Sb.keep | apply Sb.keepApp | apply Sb.cons | apply Sb.app))) (rd_move rfl) rfl (by kernel_rfl) ?_
        refine xm_take 3 (m' := 15) rfl (by kernel_rfl) (by first | exact Sb.refl | exact Sb.nil | (repeat (first | exact Sb.nil | exact Sb.refl | exact Sb.app0 | apply Sb.keep | apply Sb.keepApp | apply Sb.cons | apply Sb.app))) (rd_indexAddr rfl rfl (by omega) (by omega)) rfl (by kernel_rfl) ?_
        refine xm_take 4 (m' := 31) rfl (by kernel_rfl) (by first | exact Sb.refl | exact Sb.nil | (repeat (first | exact Sb.nil | exact Sb.refl | exact Sb.app0 | apply Sb.keep | apply Sb.keepApp | apply Sb.cons | apply Sb.app))) (rd_load1 rfl (hcZ _ (by intro z hz; simp [hz]))) rfl (by kernel_rfl) ?_
        refine xm_take 5 (m' := 63) rfl (by kernel_rfl) (by first | exact Sb.refl | exact Sb.nil | (repeat (first | exact Sb.nil | exact Sb.refl | exact Sb.app0 | apply Sb.keep | apply Sb.keepApp | apply Sb.cons | apply Sb.app))) (rd_build rfl rfl rfl) rfl (by kernel_rfl) ?_
        refine xm_take 6 (m' := 127) rfl (by kernel_rfl) (by first | exact Sb.refl | exact Sb.nil | (repeat (first | exact Sb.nil | exact Sb.refl | exact Sb.app0 | apply Sb.keep | apply Sb.keepApp | apply Sb.cons | apply Sb.app))) (rd_move rfl) rfl (by kernel_rfl) ?_
        refine xm_take 7 (m' := 255) rfl (by kernel_rfl) (by first | exact Sb.refl | exact Sb.nil | (repeat (first | exact Sb.nil | exact Sb.refl | exact Sb.app0 | apply Sb.keep | apply Sb.keepApp | apply Sb.cons | apply Sb.app))) (rd_move rfl) rfl (by kernel_rfl) ?_
        refine xm_take 8 (m' := 511) rfl (by kernel_rfl) (by first | exact Sb.refl | exact Sb.nil | (repeat (first | exact Sb.nil | exact Sb.refl | exact Sb.app0 | apply Sb.keep | apply Sb.keepApp | apply Sb.cons | apply Sb.app))) (rd_indexAddr rfl rfl (by omega) (by omega)) rfl (by kernel_rfl) ?_
        refine xm_take 9 (m' := 1023) rfl (by kernel_rfl) (by first | exact Sb.refl | exact Sb.nil | (repeat (first | exact Sb.nil | exact Sb.refl | exact Sb.app0 | apply Sb.keep | apply Sb.keepApp | apply Sb.cons | apply Sb.app))) (rd_load1 rfl (hcQ _ (by intro z hz; simp [hz]))) rfl (by kernel_rfl) ?_
        refine xm_one 10 (m' := 2047) rfl (by kernel_rfl) rfl (by kernel_rfl) (ef_call rfl (XF.mono (XF.mid [_, _] (xf_heard b r ⟨0, zv, 0, 0, 0, []⟩ (.slice none 0 0) yv uz)) ?_))
        rintro v L' ⟨rfl, rfl⟩
        refine xmx_mid [_, _] ?_
        refine ⟨(by first | exact Sb.refl | exact Sb.nil | (repeat (first | exact Sb.nil | exact Sb.refl | exact Sb.app0 | apply Sb.keep | apply Sb.keepApp | apply Sb.cons | apply Sb.app))), ?_⟩
        refine xm_done (by kernel_rfl) ?_
        refine xq_seq ?_
        refine xc_drawM [0, 0, 3, 4, 8, 0, 0, 96, 128, 272, 1023] [0, 0, 3, 4, 8, 0, 0, 96, 128, 272, 1023] (L) (by kernel_rfl) (by kernel_rfl) (by kernel_rfl) ?_
        refine xm_take 0 (m' := 1) rfl (by kernel_rfl) (by first | exact Sb.refl | exact Sb.nil | (repeat (first | exact Sb.nil | exact Sb.refl | exact Sb.app0 | apply Sb.keep | apply Sb.keepApp | apply Sb.cons | apply Sb.app))) (rd_move rfl) rfl (by kernel_rfl) ?_
        refine xm_take 1 (m' := 3) rfl (by kernel_rfl) (by first | exact Sb.refl | exact Sb.nil | (repeat (first | exact Sb.nil | exact Sb.refl | exact Sb.app0 | apply Sb.keep | apply Sb.keepApp | apply Sb.cons | apply Sb.app))) (rd_move rfl) rfl (by kernel_rfl) ?_
        refine xm_take 2 (m' := 7) rfl (by kernel_rfl) (by first | exact Sb.refl | exact Sb.nil | (repeat (first | exact Sb.nil | exact Sb.refl | exact Sb.app0 | apply Sb.keep | apply Sb.keepApp | apply Sb.cons | apply Sb.app))) (rd_indexAddr rfl rfl (by omega) (by omega)) rfl (by kernel_rfl) ?_
        refine xm_take 3 (m' := 15) rfl (by kernel_rfl) (by first | exact Sb.refl | exact Sb.nil | (repeat (first | exact Sb.nil | exact Sb.refl | exact Sb.app0 | apply Sb.keep | apply Sb.keepApp | apply Sb.cons | apply Sb.app))) (rd_load1 rfl (hcZ _ (by intro z hz; simp [hz]))) rfl (by kernel_rfl) ?_
        refine xm_take 5 (m' := 47) rfl (by kernel_rfl) (by first | exact Sb.refl | exact Sb.nil | (repeat (first | exact Sb.nil | exact Sb.refl | exact Sb.app0 | apply Sb.keep | apply Sb.keepApp | apply Sb.cons | apply Sb.app))) (rd_move rfl) rfl (by kernel_rfl) ?_
        refine xm_take 6 (m' := 111) rfl (by kernel_rfl) (by first | exact Sb.refl | exact Sb.nil | (repeat (first | exact Sb.nil | exact Sb.refl | exact Sb.app0 | apply Sb.keep | apply Sb.keepApp | apply Sb.cons | apply Sb.app))) (rd_move rfl) rfl (by kernel_rfl) ?_
        refine xm_take 7 (m' := 239) rfl (by kernel_rfl) (by first | exact Sb.refl | exact Sb.nil | (repeat (first | exact Sb.nil | exact Sb.refl | exact Sb.app0 | apply Sb.keep | apply Sb.keepApp | apply Sb.cons | apply Sb.app))) (rd_indexAddr rfl rfl (by omega) (by omega)) rfl (by kernel_rfl) ?_
        refine xm_take 8 (m' := 495) rfl (by kernel_rfl) (by first | exact Sb.refl | exact Sb.nil | (repeat (first | exact Sb.nil | exact Sb.refl | exact Sb.app0 | apply Sb.keep | apply Sb.keepApp | apply Sb.cons | apply Sb.app))) (rd_load1 rfl (hcQ _ (by intro z hz; simp [hz]))) rfl (by kernel_rfl) ?_
        refine xm_one 4 (m' := 511) rfl (by kernel_rfl) rfl (by kernel_rfl) (ef_call rfl (XF.mono (xf_rmiddle zv uz) ?_))
        rintro v L' ⟨rfl, rfl⟩
        refine ⟨(by first | exact Sb.refl | exact Sb.nil | (repeat (first | exact Sb.nil | exact Sb.refl | exact Sb.app0 | apply Sb.keep | apply Sb.keepApp | apply Sb.cons | apply Sb.app))), ?_⟩
        refine xm_take 9 (m' := 1023) rfl (by kernel_rfl) (by first | exact Sb.refl | exact Sb.nil | (repeat (first | exact Sb.nil | exact Sb.refl | exact Sb.app0 | apply Sb.keep | apply Sb.keepApp | apply Sb.cons | apply Sb.app))) (rd_build rfl rfl rfl) rfl (by kernel_rfl) ?_
        refine xm_one 10 (m' := 2047) rfl (by kernel_rfl) rfl (by kernel_rfl) (ef_storeB [_] _ rfl rfl (by first | rfl | assumption) rfl rfl rfl ?_)
        refine ⟨(by first | exact Sb.refl | exact Sb.nil | (repeat (first | exact Sb.nil | exact Sb.refl | exact Sb.app0 | apply Sb.keep | apply Sb.keepApp | apply Sb.cons | apply Sb.app))), ?_⟩
        refine xm_done (by kernel_rfl) ?_
        refine xq_block ?_
        refine xq_seq ?_
        refine xc_region ?_
        refine xo_rd (rd_move rfl) rfl ?_
        refine xo_rd (rd_addn rfl rfl (by omega) (by omega)) rfl ?_
        refine xo_rd (rd_assign rfl) rfl ?_
        refine xo_nil ?_
      all_goals exact xq_roundI (i + 1, ⟨true, midF zv, yv⟩) ⟨by dsimp only; omega, uy⟩ (by dsimp only; omega) rfl (by repeat (first | exact keep_nil | refine keep_cons rfl ?_))
    · focus
        refine xc_seq ?_
        refine xc_region ?_
        refine xo_rd (rd_move rfl) rfl ?_
        refine xo_rd (rd_move rfl) rfl ?_
        refine xo_rd (rd_len rfl) rfl ?_
        refine xo_rd (rd_lss rfl rfl) rfl ?_
        refine xo_rd (rd_move rfl) rfl ?_
        refine xo_dec 59 rfl (fun hv1 => ?_) (fun hv1 => ?_)
        refine xo_grd rfl rfl (rd_move rfl) rfl ?_
        refine xo_grd rfl rfl (rd_move rfl) rfl ?_
        refine xo_grd rfl rfl (rd_len rfl) rfl ?_
        refine xo_grd rfl rfl (rd_lss rfl rfl) rfl ?_
        refine xo_rd (rd_pickt rfl rfl) rfl ?_
        refine xo_nil ?_
        refine xq_seq ?_
        refine xc_dec rfl (fun hv2 => (by exfalso; omega)) (fun hv2 => ?_)
        refine xc_skip ?_
        refine xq_block ?_
        refine xq_seq ?_
        refine xc_region ?_
        refine xo_rd (rd_move rfl) rfl ?_
        refine xo_rd (rd_addn rfl rfl (by omega) (by omega)) rfl ?_
        refine xo_rd (rd_assign rfl) rfl ?_
        refine xo_nil ?_
        rotate_left
        refine xo_gskip rfl rfl rfl rfl ?_
        refine xo_gskip rfl rfl rfl rfl ?_
        refine xo_gskip rfl rfl rfl rfl ?_
        refine xo_gskip rfl rfl rfl rfl ?_
        refine xo_rd (rd_pickf rfl rfl) rfl ?_
        refine xo_nil ?_
        refine xq_seq ?_
        refine xc_condf rfl ?_
        refine xc_skip ?_
        refine xq_block ?_
        refine xq_seq ?_
        refine xc_region ?_
        refine xo_rd (rd_move rfl) rfl ?_
        refine xo_rd (rd_addn rfl rfl (by omega) (by omega)) rfl ?_
        refine xo_rd (rd_assign rfl) rfl ?_
        refine xo_nil ?_
        rotate_left
      all_goals exact xq_roundI (i + 1, r) ⟨by dsimp only; omega, hr'⟩ (by dsimp only; omega) rfl (by repeat (first | exact keep_nil | refine keep_cons rfl ?_))
  · skip
    focus
      refine xc_seq ?_
      refine xc_seq ?_
      refine xc_region ?_
      refine xo_rd (rd_move rfl) rfl ?_
      refine xo_rd (rd_move rfl) rfl ?_
      refine xo_rd (rd_len rfl) rfl ?_
      refine xo_rd (rd_leq rfl rfl) rfl ?_
      refine xo_rd (rd_move rfl) rfl ?_
      refine xo_dec 33 rfl (fun hv1 => ?_) (fun hv1 => ?_)
      refine xo_grd rfl rfl (rd_move rfl) rfl ?_
      refine xo_grd rfl rfl (rd_move rfl) rfl ?_
      refine xo_grd rfl rfl (rd_len rfl) rfl ?_
      refine xo_grd rfl rfl (rd_leq rfl rfl) rfl ?_
      refine xo_rd (rd_pickt rfl rfl) rfl ?_
      refine xo_nil ?_
      refine xq_seq ?_
      refine xc_dec rfl (fun hv2 => (by exfalso; omega)) (fun hv2 => ?_)
      refine xc_exit ?_
      refine xq_then_exit ?_
      refine xq_then_exit ?_
      refine xq_block_hit ?_
      refine xq_seq ?_
      refine xc_seq ?_
      refine xc_region ?_
      refine xo_ef rfl (ef_call rfl (XF.mono (xf_works) ?_))
      rintro v L' ⟨rfl, rfl⟩
      refine xo_rd (rd_assign rfl) rfl ?_
      refine xo_nil ?_
      refine xq_seq ?_
      refine xc_ret ?_
      rotate_left
      refine xo_gskip rfl rfl rfl rfl ?_
      refine xo_gskip rfl rfl rfl rfl ?_
      refine xo_gskip rfl rfl rfl rfl ?_
      refine xo_gskip rfl rfl rfl rfl ?_
      refine xo_rd (rd_pickf rfl rfl) rfl ?_
      refine xo_nil ?_
      refine xq_seq ?_
      refine xc_condf rfl ?_
      refine xc_exit ?_
      refine xq_then_exit ?_
      refine xq_then_exit ?_
      refine xq_block_hit ?_
      refine xq_seq ?_
      refine xc_seq ?_
      refine xc_region ?_
      refine xo_ef rfl (ef_call rfl (XF.mono (xf_works) ?_))
      rintro v L' ⟨rfl, rfl⟩
      refine xo_rd (rd_assign rfl) rfl ?_
      refine xo_nil ?_
      refine xq_seq ?_
      refine xc_ret ?_
      rotate_left
    all_goals exact xq_sub (L' := L) (List.sublist_append_right [_, _, _, _] L) (xq_ret1 (.inl rfl) Try.results4 rfl ⟨rfl, rfl⟩)
end Go.Proofs.Ytogilblilljpmaa.X
/-
  Words of my own for walks: a slice that is made, of elements of several cells. No condition; generic over the program.
-/
namespace Go.Proofs.Ytogilblilljpmaa.X
open Go Go.RowKit
set_option linter.unusedVariables false
section
variable {P : Program} {W : World} {n : Nat} {L : List Blk} {E : List (Nat × Value)} {d : Option Nat} {t : TypeId} {pos : String} {after : Array Edge} {g : Option (Nat × Bool)} {K : Value → List Blk → Prop}
theorem made_list (vs : List Value) (hs : 0 < vs.length) : ∀ (k : Nat), (madeCells vs.toArray (k * vs.length)).toList = (List.replicate k vs).flatMap id := by
  have key : ∀ (k : Nat), (List.range (k * vs.length)).map (fun i => vs.toArray[i % vs.toArray.size]!) = (List.replicate k vs).flatMap id := by
    intro k
    induction k with
    | zero => simp
    | succ k ih =>
      rw [Nat.succ_mul, Nat.add_comm, List.range_add, List.map_append, List.map_map, List.replicate_succ, List.flatMap_cons, ← ih]
      congr 1
      · apply List.ext_getElem
        · simp
        · intro i h1 h2
          have h3 : i < vs.length := by simpa using h1
          simp [Nat.mod_eq_of_lt h3, h3]
      · apply List.map_congr_left
        intro i hi
        simp [Function.comp]
  intro k
  unfold madeCells
  rw [Array.toList_map, Array.toList_range]
  exact key k
theorem ef_makeRows {T e bt s : Nat} {z : Value} {vs : List Value} {x y : Operand} {kl kc : IntKind} {l c : Int} [hT : Sl P T e] [hI : Inf P e z s bt] (hx : ev E x = some (.int kl l)) (hy : ev E y = some (.int kc c)) (hz : z.cells = vs.toArray) (hv : vs.length = s) (hs : 0 < s) (hs2 : s ≤ 100) (h0 : 0 ≤ l) (hlc : l ≤ c) (hc : c ≤ 100000) (hb : bt ≤ 1000000)
    (hk : ∀ r, K (.slice (some ⟨r, 0, none⟩) l.toNat c.toNat) ((r, .cells ((List.replicate c.toNat vs).flatMap id).toArray e (0, 0)) :: L)) : EF P W n L E ⟨d, .makeSlice T x y, t, pos, after, g⟩ K := by
  obtain ⟨i, h1, h2, h3, h4, h5⟩ := hI.h
  refine ef_of_new (v := fun r => .slice (some ⟨r, 0, none⟩) l.toNat c.toNat) (fun a w ha hw => ?_) hk
  have hb' : (i.bytes : Int) * c ≤ 281474976710656 := by
    rw [h4]
    have e1 : (bt : Int) * c ≤ 1000000 * c := Int.mul_le_mul_of_nonneg_right (by omega) (by omega)
    omega
  have hcs : c.toNat * s ≤ 16777216 := by
    have : c.toNat * s ≤ 100000 * 100 := Nat.mul_le_mul (by omega) hs2
    omega
  have hr := run_makeSlice (P := P) w T e i z hT.h h1 h2 kl kc l c h0 hlc (by rw [h3]; exact hcs) hb' (by omega)
  rw [h3, hz, ← hv] at hr
  have hm : madeCells vs.toArray (c.toNat * vs.length) = ((List.replicate c.toNat vs).flatMap id).toArray := Array.toList_inj.1 (by rw [made_list vs (by omega)])
  rw [hm] at hr
  simp [execOp, ha.eval hx, ha.eval hy, hr]
end
end Go.Proofs.Ytogilblilljpmaa.X
/-
  ReportKnown: the examples of the chapter, ticks about the bounds: a walk of my own.
-/
namespace Go.Proofs.Ytogilblilljpmaa.X
open Go Go.RowKit
set_option linter.unusedVariables false
set_option linter.unusedSimpArgs false
theorem xf_Counts {W : World} {L : List Blk} (ss : Int) (hs : U4 ss) (p : Option Addr) (n c : Nat) (xs : List Sd) (hx : xs.length = n) (hA : Rs W L p (xs.flatMap Sd.enc)) (hE : ∀ x, x ∈ xs → x.At W L) (hn : n ≤ 9223372036854775807)
    (nm : ByteArray) (hnm : nm.size ≤ 9223372036854775807) (now : Int) (hnow : U8 now) (pb : Option Addr) (k cb : Nat) (bs : List Bk) (hb : bs.length = k) (hB : Rs W L pb (bs.flatMap Bk.enc)) (hG : ∀ b, b ∈ bs → b.Rg) (hk : k ≤ 9223372036854775807) :
    XF Try.prog W 6 #[.int .u32 ss, .slice p n c, .string nm, .int .u64 now, .slice pb k cb] L (fun v L' => v = .bool true ∧ L' = L) := xf_over fun w hw => by
  by_cases hf : (∀ x, x ∈ xs → x.few) ∧ n ≤ 40 ∧ k ≤ 40
  · exact counts1 ss hs p n c xs hx (hA.over hw) (fun x h => (hE x h).over hw) hn nm hnm now hnow pb k cb bs hb (hB.over hw) hG hk hf
  · exact counts0 ss hs p n c xs hx (hA.over hw) (fun x h => (hE x h).over hw) hn nm hnm now hnow pb k cb bs hb (hB.over hw) hG hk hf
def vs12 : List Int := [0, 1, 999, 1000, 1001, 65535, 65536000, 65535999, 4294967296, 2199023255551, 1152921504606846976, 18446744073709551615]
def vF (t : Int) : Int := vs12.getD t.toNat 0
theorem vs12_all : ∀ i : Nat, i < 12 → vs12[i]? = some (vF (i : Int)) ∧ U8 (vF (i : Int)) := by unfold U8; decide
theorem vF_u8 (t : Int) (h0 : 0 ≤ t) (h1 : t < 12) : U8 (vF t) := by
  have := (vs12_all t.toNat (by omega)).2
  rwa [Int.toNat_of_nonneg h0] at this
theorem vF_cl {W : World} {L : List Blk} {r T : Nat} (h : (r, .cells (ints .u64 vs12).toArray T (0, 0)) ∈ L) (t : Int) (h0 : 0 ≤ t) (h1 : t < 12) : Cl W L r (0 + t.toNat * 1) (.int .u64 (vF t)) := by
  refine Cl.own h ?_
  have := (vs12_all t.toNat (by omega)).1
  rw [Int.toNat_of_nonneg h0] at this
  show (ints .u64 vs12).toArray[0 + t.toNat * 1]? = _
  rw [Nat.zero_add, Nat.mul_one]
  simp only [ints, List.getElem?_toArray, List.getElem?_map, this]; rfl
def bk0 : Bk := ⟨0, 0, 0, 0, 0, 0, 0⟩
theorem bk0_rg : bk0.Rg := ⟨u4_0, ⟨by decide, by decide⟩, ⟨by decide, by decide⟩, u4_0, u4_0, u4_0, u4_0⟩
def sdE (tm : Int) (p : Option Addr) (n : Nat) (now : Int) : List Value := [.bool false, .int .u8 0, .int .u16 0, .int .u32 tm, .int .u32 0, .slice none 0 0, .bool false, .int .u16 0, .slice none 0 0, .slice p n n, .int .u8 0, .int .u64 now]
def sdK (tm : Int) (p : Option Addr) (n : Nat) (now : Int) : Sd := ⟨⟨false, 0, 0, tm, 0, [], false, 0, [], List.replicate n 0, 0⟩, none, none, p, 0, 0, n, now⟩
theorem sdK_enc (tm : Int) (p : Option Addr) (n : Nat) (now : Int) : (sdK tm p n now).enc = sdE tm p n now := by
  show [Value.bool false, .int .u8 0, .int .u16 0, .int .u32 tm, .int .u32 0, .slice none 0 0, .bool false, .int .u16 0, .slice none 0 0, .slice p (List.replicate n (0 : Int)).length n, .int .u8 0] ++ [.int .u64 now] = _
  rw [List.length_replicate]; rfl
theorem sdK_at {W : World} {L : List Blk} {tm : Int} {p : Option Addr} {n : Nat} {now : Int} (hp : Rs W L p (ints .u8 (List.replicate n 0))) (ht : U4 tm) (hn : n ≤ 400) (hu : U8 now) : (sdK tm p n now).At W L :=
  ⟨Rs.nil, Rs.nil, hp, ht, hu, by show (0 : Nat) ≤ _; omega, by show (0 : Nat) ≤ _; omega, by show (List.replicate n (0 : Int)).length ≤ _; rw [List.length_replicate]; omega⟩
theorem rs_pre {W : World} {L : List Blk} {p : Option Addr} {a b : Sd} (h : Rs W L p (a.enc ++ b.enc)) (m : Nat) (hm : m ≤ 2) : Rs W L p (([a, b].take m).flatMap Sd.enc) := by
  have hm' : m = 0 ∨ m = 1 ∨ m = 2 := by omega
  rcases hm' with rfl | rfl | rfl
  · intro j u hj; cases hj
  · intro j u hj
    have e : ([a, b].take 1).flatMap Sd.enc = a.enc := by simp
    rw [e] at hj
    exact h j u (by rw [List.getElem?_append_left (List.getElem?_eq_some_iff.1 hj).1]; exact hj)
  · have e : ([a, b].take 2).flatMap Sd.enc = a.enc ++ b.enc := by simp
    rw [e]; exact h
theorem strOfNums_size (xs : List Int) : (strOfNums xs).size = xs.length := by
  unfold strOfNums
  show (List.map _ xs).toArray.size = _
  simp
theorem bks_rep : ∀ m : Nat, (List.replicate m bk0).flatMap Bk.enc = (List.replicate m bk0.enc).flatMap id
  | 0 => rfl
  | k + 1 => by rw [List.replicate_succ, List.replicate_succ, List.flatMap_cons, List.flatMap_cons, bks_rep k]; rfl
theorem rs_bks {W : World} {L : List Blk} {r T : Nat} {m : Nat} (h : (r, .cells ((List.replicate m bk0.enc).flatMap id).toArray T (0, 0)) ∈ L) : Rs W L (some ⟨r, 0, none⟩) ((List.replicate m bk0).flatMap Bk.enc) := by
  rw [bks_rep]; exact Rs.fresh h
set_option maxHeartbeats 8000000 in
theorem xf_ReportKnown {W : World} : XF Try.prog W 7 #[] [] (fun v L' => v = .bool true) := by
  refine xf_enter (args := []) Try.func7 rfl Try.ntmps7 rfl ?_
  focus
    refine xc_seq ?_
    refine xc_region ?_
    refine xo_rd (rd_assign rfl) rfl ?_
    refine xo_nil ?_
    refine xq_seq ?_
    refine xc_seq ?_
    refine xc_region ?_
  refine xo_ef rfl (ef_buildL (T := 28) (len := 12) (s := 1) (cells := (ints .u64 vs12).toArray) rfl (by decide) (by decide) (by kernel_rfl) fun r5 => ?_)
  focus
    refine xo_rd (rd_assign rfl) rfl ?_
    refine xo_nil ?_
    refine xq_seq ?_
    refine xc_seq ?_
    refine xc_seq ?_
    refine xc_region ?_
    refine xo_rd (rd_assign rfl) rfl ?_
    refine xo_nil ?_
    refine xq_seq ?_
    refine xc_block ?_
  refine xc_loopK (ι := Nat) (fun i => i ≤ 12) (fun i => 12 - i) (fun i => [(1, .slice (some ⟨r5, 0, none⟩) 12 12), (2, .int .i64 i)]) 0 (Nat.zero_le _) (by repeat (first | exact keep_nil | refine keep_cons rfl ?_)) ?_
  intro i hi
  by_cases hin : i < 12
  · focus
      refine xc_seq ?_
      refine xc_seq ?_
      refine xc_region ?_
      refine xo_rd (rd_move rfl) rfl ?_
      refine xo_rd (rd_move rfl) rfl ?_
      refine xo_rd (rd_len rfl) rfl ?_
      refine xo_rd (rd_lss rfl rfl) rfl ?_
      refine xo_nil ?_
      refine xq_seq ?_
      refine xc_dec rfl (fun hv1 => ?_) (fun hv1 => (by exfalso; omega))
      refine xc_skip ?_
      refine xq_seq ?_
      refine xc_seq ?_
      refine xc_block ?_
      refine xc_seq ?_
      refine xc_region ?_
      refine xo_rd (rd_assign rfl) rfl ?_
      refine xo_nil ?_
      refine xq_seq ?_
      refine xc_block ?_
    refine xc_loopK (ι := Nat) (fun k => k ≤ 12) (fun k => 12 - k) (fun k => [(1, .slice (some ⟨r5, 0, none⟩) 12 12), (2, .int .i64 i), (3, .int .i64 k)]) 0 (Nat.zero_le _) (by repeat (first | exact keep_nil | refine keep_cons rfl ?_)) ?_
    intro k hk
    by_cases hkn : k < 12
    · have hvi := vF_u8 (i : Int) (by omega) (by omega)
      have hvk := vF_u8 (k : Int) (by omega) (by omega)
      have hvs := vF_u8 (((i : Int) + k) % 12) (by omega) (by omega)
      have hvn := vF_u8 (((i : Int) + 1) % 12) (by omega) (by omega)
      focus
        refine xc_seq ?_
        refine xc_seq ?_
        refine xc_region ?_
        refine xo_rd (rd_move rfl) rfl ?_
        refine xo_rd (rd_move rfl) rfl ?_
        refine xo_rd (rd_len rfl) rfl ?_
        refine xo_rd (rd_lss rfl rfl) rfl ?_
        refine xo_nil ?_
        refine xq_seq ?_
        refine xc_dec rfl (fun hv1 => ?_) (fun hv1 => (by exfalso; omega))
        refine xc_skip ?_
        refine xq_seq ?_
      refine xc_seq (xc_block ?_)
      refine xc_join (ι := Unit) (fun _ => True) (fun _ => [(r5, .cells (ints .u64 vs12).toArray 22 (0, 0))]) (fun _ => [(1, .slice (some ⟨r5, 0, none⟩) 12 12), (2, .int .i64 i), (3, .int .i64 k)]) ?_ ?_
      · skip
        focus
          refine xc_seq ?_
          refine xc_drawML [0, 0, 3, 4, 0, 0, 48, 64, 136, 256, 768, 1024, 1024, 7168, 9216, 1024, 1024, 99328, 132096, 279552, 1024, 1024, 3146752, 4195328, 1024, 1024, 50332672, 67109888, 142607360, 1024, 1024, 1024, 1024, 6442451968, 8589935616, 18253612032, 34359739392, 69525308416, 137438954496, 274877907968] [0, 0, 3, 4, 0, 0, 48, 64, 136, 256, 768, 1024, 1024, 7168, 9216, 1024, 1024, 99328, 132096, 279552, 1024, 1024, 3146752, 4195328, 1024, 1024, 50332672, 67109888, 142607360, 1024, 1024, 1024, 1024, 6442451968, 8589935616, 18253612032, 34359739392, 69525308416, 137438954496, 274877907968] (by kernel_rfl) (by kernel_rfl) (by kernel_rfl) ?_
          refine xm_take 0 (m' := 1) rfl (by kernel_rfl) (by first | exact Sb.refl | exact Sb.nil | (repeat (first | exact Sb.nil | exact Sb.refl | exact Sb.app0 | apply Sb.keep | apply Sb.keepApp | apply Sb.cons | apply Sb.app))) (rd_move rfl) rfl (by kernel_rfl) ?_
          refine xm_take 1 (m' := 3) rfl (by kernel_rfl) (by first | exact Sb.refl | exact Sb.nil | (repeat (first | exact Sb.nil | exact Sb.refl | exact Sb.app0 | apply Sb.keep | apply Sb.keepApp | apply Sb.cons | apply Sb.app))) (rd_move rfl) rfl (by kernel_rfl) ?_
          refine xm_take 2 (m' := 7) rfl (by kernel_rfl) (by first | exact Sb.refl | exact Sb.nil | (repeat (first | exact Sb.nil | exact Sb.refl | exact Sb.app0 | apply Sb.keep | apply Sb.keepApp | apply Sb.cons | apply Sb.app))) (rd_indexAddr rfl rfl (by omega) (by omega)) rfl (by kernel_rfl) ?_
          refine xm_take 3 (m' := 15) rfl (by kernel_rfl) (by first | exact Sb.refl | exact Sb.nil | (repeat (first | exact Sb.nil | exact Sb.refl | exact Sb.app0 | apply Sb.keep | apply Sb.keepApp | apply Sb.cons | apply Sb.app))) (rd_load1 rfl (vF_cl (r := r5) (T := 22) (by simp) _ (by omega) (by omega))) rfl (by kernel_rfl) ?_
          refine xm_take 4 (m' := 31) rfl (by kernel_rfl) (by first | exact Sb.refl | exact Sb.nil | (repeat (first | exact Sb.nil | exact Sb.refl | exact Sb.app0 | apply Sb.keep | apply Sb.keepApp | apply Sb.cons | apply Sb.app))) (rd_move rfl) rfl (by kernel_rfl) ?_
          refine xm_take 5 (m' := 63) rfl (by kernel_rfl) (by first | exact Sb.refl | exact Sb.nil | (repeat (first | exact Sb.nil | exact Sb.refl | exact Sb.app0 | apply Sb.keep | apply Sb.keepApp | apply Sb.cons | apply Sb.app))) (rd_move rfl) rfl (by kernel_rfl) ?_
          refine xm_take 6 (m' := 127) rfl (by kernel_rfl) (by first | exact Sb.refl | exact Sb.nil | (repeat (first | exact Sb.nil | exact Sb.refl | exact Sb.app0 | apply Sb.keep | apply Sb.keepApp | apply Sb.cons | apply Sb.app))) (rd_indexAddr rfl rfl (by omega) (by omega)) rfl (by kernel_rfl) ?_
          refine xm_take 7 (m' := 255) rfl (by kernel_rfl) (by first | exact Sb.refl | exact Sb.nil | (repeat (first | exact Sb.nil | exact Sb.refl | exact Sb.app0 | apply Sb.keep | apply Sb.keepApp | apply Sb.cons | apply Sb.app))) (rd_load1 rfl (vF_cl (r := r5) (T := 22) (by simp) _ (by omega) (by omega))) rfl (by kernel_rfl) ?_
          refine xm_one 8 (m' := 511) rfl (by kernel_rfl) rfl (by kernel_rfl) (ef_call rfl (XF.mono (xf_ReportClocks (vF i) (vF k) hvi hvk) ?_))
          rintro v L' ⟨rfl, rfl⟩
          refine ⟨(by first | exact Sb.refl | exact Sb.nil | (repeat (first | exact Sb.nil | exact Sb.refl | exact Sb.app0 | apply Sb.keep | apply Sb.keepApp | apply Sb.cons | apply Sb.app))), ?_⟩
          refine xm_take 9 (m' := 1023) rfl (by kernel_rfl) (by first | exact Sb.refl | exact Sb.nil | (repeat (first | exact Sb.nil | exact Sb.refl | exact Sb.app0 | apply Sb.keep | apply Sb.keepApp | apply Sb.cons | apply Sb.app))) (rd_not rfl) rfl (by kernel_rfl) ?_
          refine xm_take 10 (m' := 2047) rfl (by kernel_rfl) (by first | exact Sb.refl | exact Sb.nil | (repeat (first | exact Sb.nil | exact Sb.refl | exact Sb.app0 | apply Sb.keep | apply Sb.keepApp | apply Sb.cons | apply Sb.app))) (rd_move rfl) rfl (by kernel_rfl) ?_
          refine xm_gtake 11 (m' := 4095) rfl (by kernel_rfl) (by first | exact Sb.refl | exact Sb.nil | (repeat (first | exact Sb.nil | exact Sb.refl | exact Sb.app0 | apply Sb.keep | apply Sb.keepApp | apply Sb.cons | apply Sb.app))) rfl rfl (rd_move rfl) rfl (by kernel_rfl) ?_
          refine xm_gtake 12 (m' := 8191) rfl (by kernel_rfl) (by first | exact Sb.refl | exact Sb.nil | (repeat (first | exact Sb.nil | exact Sb.refl | exact Sb.app0 | apply Sb.keep | apply Sb.keepApp | apply Sb.cons | apply Sb.app))) rfl rfl (rd_move rfl) rfl (by kernel_rfl) ?_
          refine xm_gtake 13 (m' := 16383) rfl (by kernel_rfl) (by first | exact Sb.refl | exact Sb.nil | (repeat (first | exact Sb.nil | exact Sb.refl | exact Sb.app0 | apply Sb.keep | apply Sb.keepApp | apply Sb.cons | apply Sb.app))) rfl rfl (rd_indexAddr rfl rfl (by omega) (by omega)) rfl (by kernel_rfl) ?_
          refine xm_gtake 14 (m' := 32767) rfl (by kernel_rfl) (by first | exact Sb.refl | exact Sb.nil | (repeat (first | exact Sb.nil | exact Sb.refl | exact Sb.app0 | apply Sb.keep | apply Sb.keepApp | apply Sb.cons | apply Sb.app))) rfl rfl (rd_load1 rfl (vF_cl (r := r5) (T := 22) (by simp) _ (by omega) (by omega))) rfl (by kernel_rfl) ?_
          refine xm_gtake 15 (m' := 65535) rfl (by kernel_rfl) (by first | exact Sb.refl | exact Sb.nil | (repeat (first | exact Sb.nil | exact Sb.refl | exact Sb.app0 | apply Sb.keep | apply Sb.keepApp | apply Sb.cons | apply Sb.app))) rfl rfl (rd_move rfl) rfl (by kernel_rfl) ?_
          refine xm_gtake 16 (m' := 131071) rfl (by kernel_rfl) (by first | exact Sb.refl | exact Sb.nil | (repeat (first | exact Sb.nil | exact Sb.refl | exact Sb.app0 | apply Sb.keep | apply Sb.keepApp | apply Sb.cons | apply Sb.app))) rfl rfl (rd_move rfl) rfl (by kernel_rfl) ?_
          refine xm_gtake 17 (m' := 262143) rfl (by kernel_rfl) (by first | exact Sb.refl | exact Sb.nil | (repeat (first | exact Sb.nil | exact Sb.refl | exact Sb.app0 | apply Sb.keep | apply Sb.keepApp | apply Sb.cons | apply Sb.app))) rfl rfl (rd_indexAddr rfl rfl (by omega) (by omega)) rfl (by kernel_rfl) ?_
          refine xm_gtake 18 (m' := 524287) rfl (by kernel_rfl) (by first | exact Sb.refl | exact Sb.nil | (repeat (first | exact Sb.nil | exact Sb.refl | exact Sb.app0 | apply Sb.keep | apply Sb.keepApp | apply Sb.cons | apply Sb.app))) rfl rfl (rd_load1 rfl (vF_cl (r := r5) (T := 22) (by simp) _ (by omega) (by omega))) rfl (by kernel_rfl) ?_
          refine xm_gtake 20 (m' := 1572863) rfl (by kernel_rfl) (by first | exact Sb.refl | exact Sb.nil | (repeat (first | exact Sb.nil | exact Sb.refl | exact Sb.app0 | apply Sb.keep | apply Sb.keepApp | apply Sb.cons | apply Sb.app))) rfl rfl (rd_move rfl) rfl (by kernel_rfl) ?_
          refine xm_gtake 21 (m' := 3670015) rfl (by kernel_rfl) (by first | exact Sb.refl | exact Sb.nil | (repeat (first | exact Sb.nil | exact Sb.refl | exact Sb.app0 | apply Sb.keep | apply Sb.keepApp | apply Sb.cons | apply Sb.app))) rfl rfl (rd_move rfl) rfl (by kernel_rfl) ?_
          refine xm_gtake 22 (m' := 7864319) rfl (by kernel_rfl) (by first | exact Sb.refl | exact Sb.nil | (repeat (first | exact Sb.nil | exact Sb.refl | exact Sb.app0 | apply Sb.keep | apply Sb.keepApp | apply Sb.cons | apply Sb.app))) rfl rfl (rd_indexAddr rfl rfl (by omega) (by omega)) rfl (by kernel_rfl) ?_
          refine xm_gtake 23 (m' := 16252927) rfl (by kernel_rfl) (by first | exact Sb.refl | exact Sb.nil | (repeat (first | exact Sb.nil | exact Sb.refl | exact Sb.app0 | apply Sb.keep | apply Sb.keepApp | apply Sb.cons | apply Sb.app))) rfl rfl (rd_load1 rfl (vF_cl (r := r5) (T := 22) (by simp) _ (by omega) (by omega))) rfl (by kernel_rfl) ?_
          refine xm_gtake 24 (m' := 33030143) rfl (by kernel_rfl) (by first | exact Sb.refl | exact Sb.nil | (repeat (first | exact Sb.nil | exact Sb.refl | exact Sb.app0 | apply Sb.keep | apply Sb.keepApp | apply Sb.cons | apply Sb.app))) rfl rfl (rd_move rfl) rfl (by kernel_rfl) ?_
          refine xm_gtake 25 (m' := 66584575) rfl (by kernel_rfl) (by first | exact Sb.refl | exact Sb.nil | (repeat (first | exact Sb.nil | exact Sb.refl | exact Sb.app0 | apply Sb.keep | apply Sb.keepApp | apply Sb.cons | apply Sb.app))) rfl rfl (rd_move rfl) rfl (by kernel_rfl) ?_
          refine xm_gtake 26 (m' := 133693439) rfl (by kernel_rfl) (by first | exact Sb.refl | exact Sb.nil | (repeat (first | exact Sb.nil | exact Sb.refl | exact Sb.app0 | apply Sb.keep | apply Sb.keepApp | apply Sb.cons | apply Sb.app))) rfl rfl (rd_indexAddr rfl rfl (by omega) (by omega)) rfl (by kernel_rfl) ?_
          refine xm_gtake 27 (m' := 267911167) rfl (by kernel_rfl) (by first | exact Sb.refl | exact Sb.nil | (repeat (first | exact Sb.nil | exact Sb.refl | exact Sb.app0 | apply Sb.keep | apply Sb.keepApp | apply Sb.cons | apply Sb.app))) rfl rfl (rd_load1 rfl (vF_cl (r := r5) (T := 22) (by simp) _ (by omega) (by omega))) rfl (by kernel_rfl) ?_
          refine xm_gtake 29 (m' := 804782079) rfl (by kernel_rfl) (by first | exact Sb.refl | exact Sb.nil | (repeat (first | exact Sb.nil | exact Sb.refl | exact Sb.app0 | apply Sb.keep | apply Sb.keepApp | apply Sb.cons | apply Sb.app))) rfl rfl (rd_build rfl rfl rfl) rfl (by kernel_rfl) ?_
          refine xm_gtake 30 (m' := 1878523903) rfl (by kernel_rfl) (by first | exact Sb.refl | exact Sb.nil | (repeat (first | exact Sb.nil | exact Sb.refl | exact Sb.app0 | apply Sb.keep | apply Sb.keepApp | apply Sb.cons | apply Sb.app))) rfl rfl (rd_move rfl) rfl (by kernel_rfl) ?_
          refine xm_gtake 31 (m' := 4026007551) rfl (by kernel_rfl) (by first | exact Sb.refl | exact Sb.nil | (repeat (first | exact Sb.nil | exact Sb.refl | exact Sb.app0 | apply Sb.keep | apply Sb.keepApp | apply Sb.cons | apply Sb.app))) rfl rfl (rd_move rfl) rfl (by kernel_rfl) ?_
          refine xm_gtake 32 (m' := 8320974847) rfl (by kernel_rfl) (by first | exact Sb.refl | exact Sb.nil | (repeat (first | exact Sb.nil | exact Sb.refl | exact Sb.app0 | apply Sb.keep | apply Sb.keepApp | apply Sb.cons | apply Sb.app))) rfl rfl (rd_move rfl) rfl (by kernel_rfl) ?_
          refine xm_gtake 33 (m' := 16910909439) rfl (by kernel_rfl) (by first | exact Sb.refl | exact Sb.nil | (repeat (first | exact Sb.nil | exact Sb.refl | exact Sb.app0 | apply Sb.keep | apply Sb.keepApp | apply Sb.cons | apply Sb.app))) rfl rfl (rd_addn rfl rfl (by omega) (by omega)) rfl (by kernel_rfl) ?_
          refine xm_gtake 34 (m' := 34090778623) rfl (by kernel_rfl) (by first | exact Sb.refl | exact Sb.nil | (repeat (first | exact Sb.nil | exact Sb.refl | exact Sb.app0 | apply Sb.keep | apply Sb.keepApp | apply Sb.cons | apply Sb.app))) rfl rfl (rd_remn rfl rfl (by omega) (by omega)) rfl (by kernel_rfl) ?_
          refine xm_gtake 35 (m' := 68450516991) rfl (by kernel_rfl) (by first | exact Sb.refl | exact Sb.nil | (repeat (first | exact Sb.nil | exact Sb.refl | exact Sb.app0 | apply Sb.keep | apply Sb.keepApp | apply Sb.cons | apply Sb.app))) rfl rfl (rd_indexAddr rfl rfl (by omega) (by omega)) rfl (by kernel_rfl) ?_
          refine xm_gtake 36 (m' := 137169993727) rfl (by kernel_rfl) (by first | exact Sb.refl | exact Sb.nil | (repeat (first | exact Sb.nil | exact Sb.refl | exact Sb.app0 | apply Sb.keep | apply Sb.keepApp | apply Sb.cons | apply Sb.app))) rfl rfl (rd_load1 rfl (vF_cl (r := r5) (T := 22) (by simp) _ (by omega) (by omega))) rfl (by kernel_rfl) ?_
          refine xm_l2 19 28 (by kernel_rfl) (xms_gef 19 (m' := 137170518015) rfl rfl rfl rfl (by kernel_rfl) (ef_buildL (T := 28) (len := 2) (s := 1) (vs := [(0, .int .u64 (vF i)), (1, .int .u64 (vF k))]) (cells := (ints .u64 [vF i, vF k]).toArray) rfl (by decide) (by decide) (by kernel_rfl) fun r37 => ⟨(by first | exact Sb.refl | exact Sb.nil | (repeat (first | exact Sb.nil | exact Sb.refl | exact Sb.app0 | apply Sb.keep | apply Sb.keepApp | apply Sb.cons | apply Sb.app))), ?_⟩)) (xms_gef 28 (m' := 137438429183) rfl rfl rfl rfl (by kernel_rfl) (ef_buildL (T := 28) (len := 2) (s := 1) (vs := [(0, .int .u64 (vF k)), (1, .int .u64 (vF i))]) (cells := (ints .u64 [vF k, vF i]).toArray) rfl (by decide) (by decide) (by kernel_rfl) fun r46 => ⟨(by first | exact Sb.refl | exact Sb.nil | (repeat (first | exact Sb.nil | exact Sb.refl | exact Sb.app0 | apply Sb.keep | apply Sb.keepApp | apply Sb.cons | apply Sb.app))), ?_⟩))
          refine xm_gone 28 (m' := 137438953471) rfl (by kernel_rfl) rfl rfl rfl (by kernel_rfl) (ef_buildL (T := 28) (len := 2) (s := 1) (vs := [(0, .int .u64 (vF k)), (1, .int .u64 (vF i))]) (cells := (ints .u64 [vF k, vF i]).toArray) rfl (by decide) (by decide) (by kernel_rfl) fun r46 => ?_)
          refine ⟨(by first | exact Sb.refl | exact Sb.nil | (repeat (first | exact Sb.nil | exact Sb.refl | exact Sb.app0 | apply Sb.keep | apply Sb.keepApp | apply Sb.cons | apply Sb.app))), ?_⟩
          refine xm_gone 37 (m' := 274877906943) rfl (by kernel_rfl) rfl rfl rfl (by kernel_rfl) (ef_call rfl (XF.mono (xf_ReportHears (some ⟨r37, 0, none⟩) 2 2 [vF i, vF k] rfl (Rs.fresh (vs := ints .u64 [vF i, vF k]) (T := 22) (fr := (0, 0)) (by simp)) (by simp [hvi, hvk]) (some ⟨r46, 0, none⟩) 2 2 [vF k, vF i] rfl (Rs.fresh (vs := ints .u64 [vF k, vF i]) (T := 22) (fr := (0, 0)) (by simp)) (by simp [hvi, hvk]) ⟨5, 0, 0, 0, 0, 7, 8⟩ _ hvs (by decide) (by decide)) ?_))
          rintro v L' ⟨rfl, rfl⟩
          refine ⟨(by first | exact Sb.refl | exact Sb.nil | (repeat (first | exact Sb.nil | exact Sb.refl | exact Sb.app0 | apply Sb.keep | apply Sb.keepApp | apply Sb.cons | apply Sb.app))), ?_⟩
          refine xm_gtake 38 (m' := 549755813887) rfl (by kernel_rfl) (by first | exact Sb.refl | exact Sb.nil | (repeat (first | exact Sb.nil | exact Sb.refl | exact Sb.app0 | apply Sb.keep | apply Sb.keepApp | apply Sb.cons | apply Sb.app))) rfl rfl (rd_not rfl) rfl (by kernel_rfl) ?_
          refine xm_take 39 (m' := 1099511627775) rfl (by kernel_rfl) (by first | exact Sb.refl | exact Sb.nil | (repeat (first | exact Sb.nil | exact Sb.refl | exact Sb.app0 | apply Sb.keep | apply Sb.keepApp | apply Sb.cons | apply Sb.app))) (rd_pickf rfl rfl) rfl (by kernel_rfl) ?_
          refine xm_done (by kernel_rfl) ?_
          refine xq_seq ?_
          refine xc_condf rfl ?_
          refine xc_skip ?_
          rotate_left
          refine xm_gone 19 (m' := 137438953471) rfl (by kernel_rfl) rfl rfl rfl (by kernel_rfl) (ef_buildL (T := 28) (len := 2) (s := 1) (vs := [(0, .int .u64 (vF i)), (1, .int .u64 (vF k))]) (cells := (ints .u64 [vF i, vF k]).toArray) rfl (by decide) (by decide) (by kernel_rfl) fun r37 => ?_)
          refine ⟨(by first | exact Sb.refl | exact Sb.nil | (repeat (first | exact Sb.nil | exact Sb.refl | exact Sb.app0 | apply Sb.keep | apply Sb.keepApp | apply Sb.cons | apply Sb.app))), ?_⟩
          refine xm_gone 37 (m' := 274877906943) rfl (by kernel_rfl) rfl rfl rfl (by kernel_rfl) (ef_call rfl (XF.mono (xf_ReportHears (some ⟨r37, 0, none⟩) 2 2 [vF i, vF k] rfl (Rs.fresh (vs := ints .u64 [vF i, vF k]) (T := 22) (fr := (0, 0)) (by simp)) (by simp [hvi, hvk]) (some ⟨r46, 0, none⟩) 2 2 [vF k, vF i] rfl (Rs.fresh (vs := ints .u64 [vF k, vF i]) (T := 22) (fr := (0, 0)) (by simp)) (by simp [hvi, hvk]) ⟨5, 0, 0, 0, 0, 7, 8⟩ _ hvs (by decide) (by decide)) ?_))
          rintro v L' ⟨rfl, rfl⟩
          refine ⟨(by first | exact Sb.refl | exact Sb.nil | (repeat (first | exact Sb.nil | exact Sb.refl | exact Sb.app0 | apply Sb.keep | apply Sb.keepApp | apply Sb.cons | apply Sb.app))), ?_⟩
          refine xm_gtake 38 (m' := 549755813887) rfl (by kernel_rfl) (by first | exact Sb.refl | exact Sb.nil | (repeat (first | exact Sb.nil | exact Sb.refl | exact Sb.app0 | apply Sb.keep | apply Sb.keepApp | apply Sb.cons | apply Sb.app))) rfl rfl (rd_not rfl) rfl (by kernel_rfl) ?_
          refine xm_take 39 (m' := 1099511627775) rfl (by kernel_rfl) (by first | exact Sb.refl | exact Sb.nil | (repeat (first | exact Sb.nil | exact Sb.refl | exact Sb.app0 | apply Sb.keep | apply Sb.keepApp | apply Sb.cons | apply Sb.app))) (rd_pickf rfl rfl) rfl (by kernel_rfl) ?_
          refine xm_done (by kernel_rfl) ?_
          refine xq_seq ?_
          refine xc_condf rfl ?_
          refine xc_skip ?_
          rotate_left
        all_goals exact xq_sub (L' := [(r5, .cells (ints .u64 vs12).toArray 22 (0, 0))]) (List.sublist_append_right [_, _] _) (xq_joined () trivial rfl (by repeat (first | exact keep_nil | refine keep_cons rfl ?_)))
      rintro ⟨⟩ _
      focus
        refine xc_seq ?_
        refine xc_drawML [0, 0, 3, 4, 8, 0, 32, 64, 144, 0, 0, 1536, 2048, 4352, 0, 0, 49152, 65536, 131072, 262144, 0, 0, 3145728, 4194304, 8912896, 16785408, 67108863] [0, 0, 3, 4, 8, 0, 32, 64, 144, 0, 0, 1536, 2048, 4352, 0, 0, 49152, 65536, 131072, 262144, 0, 0, 3145728, 4194304, 8912896, 16785408, 67108863] (by kernel_rfl) (by kernel_rfl) (by kernel_rfl) ?_
        refine xm_take 0 (m' := 1) rfl (by kernel_rfl) (by first | exact Sb.refl | exact Sb.nil | (repeat (first | exact Sb.nil | exact Sb.refl | exact Sb.app0 | apply Sb.keep | apply Sb.keepApp | apply Sb.cons | apply Sb.app))) (rd_move rfl) rfl (by kernel_rfl) ?_
        refine xm_take 1 (m' := 3) rfl (by kernel_rfl) (by first | exact Sb.refl | exact Sb.nil | (repeat (first | exact Sb.nil | exact Sb.refl | exact Sb.app0 | apply Sb.keep | apply Sb.keepApp | apply Sb.cons | apply Sb.app))) (rd_move rfl) rfl (by kernel_rfl) ?_
        refine xm_take 2 (m' := 7) rfl (by kernel_rfl) (by first | exact Sb.refl | exact Sb.nil | (repeat (first | exact Sb.nil | exact Sb.refl | exact Sb.app0 | apply Sb.keep | apply Sb.keepApp | apply Sb.cons | apply Sb.app))) (rd_indexAddr rfl rfl (by omega) (by omega)) rfl (by kernel_rfl) ?_
        refine xm_take 3 (m' := 15) rfl (by kernel_rfl) (by first | exact Sb.refl | exact Sb.nil | (repeat (first | exact Sb.nil | exact Sb.refl | exact Sb.app0 | apply Sb.keep | apply Sb.keepApp | apply Sb.cons | apply Sb.app))) (rd_load1 rfl (vF_cl (r := r5) (T := 22) (by simp) _ (by omega) (by omega))) rfl (by kernel_rfl) ?_
        refine xm_take 4 (m' := 31) rfl (by kernel_rfl) (by first | exact Sb.refl | exact Sb.nil | (repeat (first | exact Sb.nil | exact Sb.refl | exact Sb.app0 | apply Sb.keep | apply Sb.keepApp | apply Sb.cons | apply Sb.app))) (rd_conv rfl) rfl (by kernel_rfl) ?_
        refine xm_take 5 (m' := 63) rfl (by kernel_rfl) (by first | exact Sb.refl | exact Sb.nil | (repeat (first | exact Sb.nil | exact Sb.refl | exact Sb.app0 | apply Sb.keep | apply Sb.keepApp | apply Sb.cons | apply Sb.app))) (rd_move rfl) rfl (by kernel_rfl) ?_
        refine xm_take 6 (m' := 127) rfl (by kernel_rfl) (by first | exact Sb.refl | exact Sb.nil | (repeat (first | exact Sb.nil | exact Sb.refl | exact Sb.app0 | apply Sb.keep | apply Sb.keepApp | apply Sb.cons | apply Sb.app))) (rd_muln rfl rfl (by omega) (by omega)) rfl (by kernel_rfl) ?_
        refine xm_take 9 (m' := 639) rfl (by kernel_rfl) (by first | exact Sb.refl | exact Sb.nil | (repeat (first | exact Sb.nil | exact Sb.refl | exact Sb.app0 | apply Sb.keep | apply Sb.keepApp | apply Sb.cons | apply Sb.app))) (rd_move rfl) rfl (by kernel_rfl) ?_
        refine xm_take 10 (m' := 1663) rfl (by kernel_rfl) (by first | exact Sb.refl | exact Sb.nil | (repeat (first | exact Sb.nil | exact Sb.refl | exact Sb.app0 | apply Sb.keep | apply Sb.keepApp | apply Sb.cons | apply Sb.app))) (rd_move rfl) rfl (by kernel_rfl) ?_
        refine xm_take 11 (m' := 3711) rfl (by kernel_rfl) (by first | exact Sb.refl | exact Sb.nil | (repeat (first | exact Sb.nil | exact Sb.refl | exact Sb.app0 | apply Sb.keep | apply Sb.keepApp | apply Sb.cons | apply Sb.app))) (rd_indexAddr rfl rfl (by omega) (by omega)) rfl (by kernel_rfl) ?_
        refine xm_take 12 (m' := 7807) rfl (by kernel_rfl) (by first | exact Sb.refl | exact Sb.nil | (repeat (first | exact Sb.nil | exact Sb.refl | exact Sb.app0 | apply Sb.keep | apply Sb.keepApp | apply Sb.cons | apply Sb.app))) (rd_load1 rfl (vF_cl (r := r5) (T := 22) (by simp) _ (by omega) (by omega))) rfl (by kernel_rfl) ?_
        refine xm_take 14 (m' := 24191) rfl (by kernel_rfl) (by first | exact Sb.refl | exact Sb.nil | (repeat (first | exact Sb.nil | exact Sb.refl | exact Sb.app0 | apply Sb.keep | apply Sb.keepApp | apply Sb.cons | apply Sb.app))) (rd_move rfl) rfl (by kernel_rfl) ?_
        refine xm_take 15 (m' := 56959) rfl (by kernel_rfl) (by first | exact Sb.refl | exact Sb.nil | (repeat (first | exact Sb.nil | exact Sb.refl | exact Sb.app0 | apply Sb.keep | apply Sb.keepApp | apply Sb.cons | apply Sb.app))) (rd_move rfl) rfl (by kernel_rfl) ?_
        refine xm_take 16 (m' := 122495) rfl (by kernel_rfl) (by first | exact Sb.refl | exact Sb.nil | (repeat (first | exact Sb.nil | exact Sb.refl | exact Sb.app0 | apply Sb.keep | apply Sb.keepApp | apply Sb.cons | apply Sb.app))) (rd_indexAddr rfl rfl (by omega) (by omega)) rfl (by kernel_rfl) ?_
        refine xm_take 17 (m' := 253567) rfl (by kernel_rfl) (by first | exact Sb.refl | exact Sb.nil | (repeat (first | exact Sb.nil | exact Sb.refl | exact Sb.app0 | apply Sb.keep | apply Sb.keepApp | apply Sb.cons | apply Sb.app))) (rd_load1 rfl (vF_cl (r := r5) (T := 22) (by simp) _ (by omega) (by omega))) rfl (by kernel_rfl) ?_
        refine xm_take 18 (m' := 515711) rfl (by kernel_rfl) (by first | exact Sb.refl | exact Sb.nil | (repeat (first | exact Sb.nil | exact Sb.refl | exact Sb.app0 | apply Sb.keep | apply Sb.keepApp | apply Sb.cons | apply Sb.app))) (rd_conv rfl) rfl (by kernel_rfl) ?_
        refine xm_take 19 (m' := 1039999) rfl (by kernel_rfl) (by first | exact Sb.refl | exact Sb.nil | (repeat (first | exact Sb.nil | exact Sb.refl | exact Sb.app0 | apply Sb.keep | apply Sb.keepApp | apply Sb.cons | apply Sb.app))) (rd_build rfl rfl rfl) rfl (by kernel_rfl) ?_
        refine xm_take 20 (m' := 2088575) rfl (by kernel_rfl) (by first | exact Sb.refl | exact Sb.nil | (repeat (first | exact Sb.nil | exact Sb.refl | exact Sb.app0 | apply Sb.keep | apply Sb.keepApp | apply Sb.cons | apply Sb.app))) (rd_move rfl) rfl (by kernel_rfl) ?_
        refine xm_take 21 (m' := 4185727) rfl (by kernel_rfl) (by first | exact Sb.refl | exact Sb.nil | (repeat (first | exact Sb.nil | exact Sb.refl | exact Sb.app0 | apply Sb.keep | apply Sb.keepApp | apply Sb.cons | apply Sb.app))) (rd_move rfl) rfl (by kernel_rfl) ?_
        refine xm_take 22 (m' := 8380031) rfl (by kernel_rfl) (by first | exact Sb.refl | exact Sb.nil | (repeat (first | exact Sb.nil | exact Sb.refl | exact Sb.app0 | apply Sb.keep | apply Sb.keepApp | apply Sb.cons | apply Sb.app))) (rd_indexAddr rfl rfl (by omega) (by omega)) rfl (by kernel_rfl) ?_
        refine xm_take 23 (m' := 16768639) rfl (by kernel_rfl) (by first | exact Sb.refl | exact Sb.nil | (repeat (first | exact Sb.nil | exact Sb.refl | exact Sb.app0 | apply Sb.keep | apply Sb.keepApp | apply Sb.cons | apply Sb.app))) (rd_load1 rfl (vF_cl (r := r5) (T := 22) (by simp) _ (by omega) (by omega))) rfl (by kernel_rfl) ?_
        refine xm_take 24 (m' := 33545855) rfl (by kernel_rfl) (by first | exact Sb.refl | exact Sb.nil | (repeat (first | exact Sb.nil | exact Sb.refl | exact Sb.app0 | apply Sb.keep | apply Sb.keepApp | apply Sb.cons | apply Sb.app))) (rd_build rfl rfl rfl) rfl (by kernel_rfl) ?_
        refine xm_one 7 (m' := 33545983) rfl (by kernel_rfl) rfl (by kernel_rfl) (ef_makeSlice rfl rfl rfl (by omega) (by omega) (by omega) (by decide) fun r65 => ?_)
        refine ⟨(by first | exact Sb.refl | exact Sb.nil | (repeat (first | exact Sb.nil | exact Sb.refl | exact Sb.app0 | apply Sb.keep | apply Sb.keepApp | apply Sb.cons | apply Sb.app))), ?_⟩
        refine xm_take 8 (m' := 33546239) rfl (by kernel_rfl) (by first | exact Sb.refl | exact Sb.nil | (repeat (first | exact Sb.nil | exact Sb.refl | exact Sb.app0 | apply Sb.keep | apply Sb.keepApp | apply Sb.cons | apply Sb.app))) (rd_build rfl rfl rfl) rfl (by kernel_rfl) ?_
        refine xm_take 13 (m' := 33554431) rfl (by kernel_rfl) (by first | exact Sb.refl | exact Sb.nil | (repeat (first | exact Sb.nil | exact Sb.refl | exact Sb.app0 | apply Sb.keep | apply Sb.keepApp | apply Sb.cons | apply Sb.app))) (rd_build rfl rfl rfl) rfl (by kernel_rfl) ?_
        refine xm_one 25 (m' := 67108863) rfl (by kernel_rfl) rfl (by kernel_rfl) (ef_buildL (T := 64) (len := 2) (s := 12) (cells := (sdE (IntKind.u32.wrap (vF i)) (some ⟨r65, 0, none⟩) (Int.toNat ((i : Int) * 30)) (vF k) ++ sdE (IntKind.u32.wrap (vF k)) none 0 (vF i)).toArray) rfl (by decide) (by decide) (by kernel_rfl) fun r83 => ?_)
        refine ⟨(by first | exact Sb.refl | exact Sb.nil | (repeat (first | exact Sb.nil | exact Sb.refl | exact Sb.app0 | apply Sb.keep | apply Sb.keepApp | apply Sb.cons | apply Sb.app))), ?_⟩
        refine xm_take 26 (m' := 134217727) rfl (by kernel_rfl) (by first | exact Sb.refl | exact Sb.nil | (repeat (first | exact Sb.nil | exact Sb.refl | exact Sb.app0 | apply Sb.keep | apply Sb.keepApp | apply Sb.cons | apply Sb.app))) (rd_assign rfl) rfl (by kernel_rfl) ?_
        refine xm_done (by kernel_rfl) ?_
        refine xq_seq ?_
      have ha : ∀ L, (r65, .cells (List.replicate (Int.toNat ((i : Int) * 30)) (Value.int .u8 0)).toArray 5 (0, 0)) ∈ L → (sdK (IntKind.u32.wrap (vF i)) (some ⟨r65, 0, none⟩) (Int.toNat ((i : Int) * 30)) (vF k)).At W L := fun L h => sdK_at (by rw [ints_rep]; exact Rs.fresh h) (by simp only [IntKind.wrap_u32]; exact ⟨by omega, by omega⟩) (by omega) hvk
      have hb : ∀ L, (sdK (IntKind.u32.wrap (vF k)) none 0 (vF i)).At W L := fun L => sdK_at Rs.nil (by simp only [IntKind.wrap_u32]; exact ⟨by omega, by omega⟩) (by decide) hvi
      focus
        refine xc_seq ?_
        refine xc_drawML [0, 1, 0, 0, 8, 20, 0, 0, 128, 256, 576, 1024, 0, 4096, 8192, 18466, 32768] [0, 1, 0, 0, 8, 20, 0, 0, 128, 256, 576, 1024, 0, 4096, 8192, 18466, 32768] (by kernel_rfl) (by kernel_rfl) (by kernel_rfl) ?_
        refine xm_take 0 (m' := 1) rfl (by kernel_rfl) (by first | exact Sb.refl | exact Sb.nil | (repeat (first | exact Sb.nil | exact Sb.refl | exact Sb.app0 | apply Sb.keep | apply Sb.keepApp | apply Sb.cons | apply Sb.app))) (rd_move rfl) rfl (by kernel_rfl) ?_
        refine xm_take 1 (m' := 3) rfl (by kernel_rfl) (by first | exact Sb.refl | exact Sb.nil | (repeat (first | exact Sb.nil | exact Sb.refl | exact Sb.app0 | apply Sb.keep | apply Sb.keepApp | apply Sb.cons | apply Sb.app))) (rd_convn rfl (by omega) (by omega)) rfl (by kernel_rfl) ?_
        refine xm_take 2 (m' := 7) rfl (by kernel_rfl) (by first | exact Sb.refl | exact Sb.nil | (repeat (first | exact Sb.nil | exact Sb.refl | exact Sb.app0 | apply Sb.keep | apply Sb.keepApp | apply Sb.cons | apply Sb.app))) (rd_move rfl) rfl (by kernel_rfl) ?_
        refine xm_take 3 (m' := 15) rfl (by kernel_rfl) (by first | exact Sb.refl | exact Sb.nil | (repeat (first | exact Sb.nil | exact Sb.refl | exact Sb.app0 | apply Sb.keep | apply Sb.keepApp | apply Sb.cons | apply Sb.app))) (rd_move rfl) rfl (by kernel_rfl) ?_
        refine xm_take 4 (m' := 31) rfl (by kernel_rfl) (by first | exact Sb.refl | exact Sb.nil | (repeat (first | exact Sb.nil | exact Sb.refl | exact Sb.app0 | apply Sb.keep | apply Sb.keepApp | apply Sb.cons | apply Sb.app))) (rd_remn rfl rfl (by omega) (by omega)) rfl (by kernel_rfl) ?_
        refine xm_take 5 (m' := 63) rfl (by kernel_rfl) (by first | exact Sb.refl | exact Sb.nil | (repeat (first | exact Sb.nil | exact Sb.refl | exact Sb.app0 | apply Sb.keep | apply Sb.keepApp | apply Sb.cons | apply Sb.app))) (rd_sliceHi rfl rfl (by omega) (by omega)) rfl (by kernel_rfl) ?_
        refine xm_take 6 (m' := 127) rfl (by kernel_rfl) (by first | exact Sb.refl | exact Sb.nil | (repeat (first | exact Sb.nil | exact Sb.refl | exact Sb.app0 | apply Sb.keep | apply Sb.keepApp | apply Sb.cons | apply Sb.app))) (rd_move rfl) rfl (by kernel_rfl) ?_
        refine xm_take 7 (m' := 255) rfl (by kernel_rfl) (by first | exact Sb.refl | exact Sb.nil | (repeat (first | exact Sb.nil | exact Sb.refl | exact Sb.app0 | apply Sb.keep | apply Sb.keepApp | apply Sb.cons | apply Sb.app))) (rd_move rfl) rfl (by kernel_rfl) ?_
        refine xm_take 8 (m' := 511) rfl (by kernel_rfl) (by first | exact Sb.refl | exact Sb.nil | (repeat (first | exact Sb.nil | exact Sb.refl | exact Sb.app0 | apply Sb.keep | apply Sb.keepApp | apply Sb.cons | apply Sb.app))) (rd_addn rfl rfl (by omega) (by omega)) rfl (by kernel_rfl) ?_
        refine xm_take 9 (m' := 1023) rfl (by kernel_rfl) (by first | exact Sb.refl | exact Sb.nil | (repeat (first | exact Sb.nil | exact Sb.refl | exact Sb.app0 | apply Sb.keep | apply Sb.keepApp | apply Sb.cons | apply Sb.app))) (rd_remn rfl rfl (by omega) (by omega)) rfl (by kernel_rfl) ?_
        refine xm_take 10 (m' := 2047) rfl (by kernel_rfl) (by first | exact Sb.refl | exact Sb.nil | (repeat (first | exact Sb.nil | exact Sb.refl | exact Sb.app0 | apply Sb.keep | apply Sb.keepApp | apply Sb.cons | apply Sb.app))) (rd_indexAddr rfl rfl (by omega) (by omega)) rfl (by kernel_rfl) ?_
        refine xm_take 11 (m' := 4095) rfl (by kernel_rfl) (by first | exact Sb.refl | exact Sb.nil | (repeat (first | exact Sb.nil | exact Sb.refl | exact Sb.app0 | apply Sb.keep | apply Sb.keepApp | apply Sb.cons | apply Sb.app))) (rd_load1 rfl (vF_cl (r := r5) (T := 22) (by simp) _ (by omega) (by omega))) rfl (by kernel_rfl) ?_
        refine xm_take 12 (m' := 8191) rfl (by kernel_rfl) (by first | exact Sb.refl | exact Sb.nil | (repeat (first | exact Sb.nil | exact Sb.refl | exact Sb.app0 | apply Sb.keep | apply Sb.keepApp | apply Sb.cons | apply Sb.app))) (rd_move rfl) rfl (by kernel_rfl) ?_
        refine xm_take 13 (m' := 16383) rfl (by kernel_rfl) (by first | exact Sb.refl | exact Sb.nil | (repeat (first | exact Sb.nil | exact Sb.refl | exact Sb.app0 | apply Sb.keep | apply Sb.keepApp | apply Sb.cons | apply Sb.app))) (rd_muln rfl rfl (by omega) (by omega)) rfl (by kernel_rfl) ?_
        refine xm_one 14 (m' := 32767) rfl (by kernel_rfl) rfl (by kernel_rfl) (ef_makeRows (s := 7) (vs := bk0.enc) rfl rfl rfl rfl (by decide) (by decide) (by omega) (by omega) (by omega) (by decide) fun r98 => ?_)
        refine ⟨(by first | exact Sb.refl | exact Sb.nil | (repeat (first | exact Sb.nil | exact Sb.refl | exact Sb.app0 | apply Sb.keep | apply Sb.keepApp | apply Sb.cons | apply Sb.app))), ?_⟩
        refine xm_one 15 (m' := 65535) rfl (by kernel_rfl) rfl (by kernel_rfl) (ef_call rfl (XF.mono (xf_Counts _ ⟨by omega, by omega⟩ _ (Int.toNat ((k : Int) % 3)) _ ([sdK (IntKind.u32.wrap (vF i)) (some ⟨r65, 0, none⟩) (Int.toNat ((i : Int) * 30)) (vF k), sdK (IntKind.u32.wrap (vF k)) none 0 (vF i)].take (Int.toNat ((k : Int) % 3))) (by simp only [List.length_take, List.length_cons, List.length_nil]; omega) (rs_pre (by rw [sdK_enc, sdK_enc]; exact Rs.fresh (T := 70) (fr := (0, 0)) (by simp)) _ (by omega)) (fun x hx => by have h2 := List.mem_of_mem_take hx; simp only [List.mem_cons, List.not_mem_nil, or_false] at h2; rcases h2 with rfl | rfl; exact ha _ (by simp); exact hb _) (by omega) _ (by decide) _ hvn _ _ _ (List.replicate (Int.toNat ((k : Int) * 3)) bk0) List.length_replicate (rs_bks (T := 30) (by simp)) (fun b hb => by rw [List.eq_of_mem_replicate hb]; exact bk0_rg) (by omega)) ?_))
        rintro v L' ⟨rfl, rfl⟩
        refine ⟨(by first | exact Sb.refl | exact Sb.nil | (repeat (first | exact Sb.nil | exact Sb.refl | exact Sb.app0 | apply Sb.keep | apply Sb.keepApp | apply Sb.cons | apply Sb.app))), ?_⟩
        refine xm_take 16 (m' := 131071) rfl (by kernel_rfl) (by first | exact Sb.refl | exact Sb.nil | (repeat (first | exact Sb.nil | exact Sb.refl | exact Sb.app0 | apply Sb.keep | apply Sb.keepApp | apply Sb.cons | apply Sb.app))) (rd_not rfl) rfl (by kernel_rfl) ?_
        refine xm_done (by kernel_rfl) ?_
        refine xq_seq ?_
        refine xc_condf rfl ?_
        refine xc_skip ?_
        refine xq_block ?_
        refine xq_seq ?_
        refine xc_region ?_
        refine xo_rd (rd_move rfl) rfl ?_
        refine xo_rd (rd_addn rfl rfl (by omega) (by omega)) rfl ?_
        refine xo_rd (rd_assign rfl) rfl ?_
        refine xo_nil ?_
      exact xq_roundK rfl (k + 1) (by omega) (by omega) (List.sublist_append_right [_, _, _] _) (by repeat (first | exact keep_nil | refine keep_cons rfl ?_))
    · focus
        refine xc_seq ?_
        refine xc_seq ?_
        refine xc_region ?_
        refine xo_rd (rd_move rfl) rfl ?_
        refine xo_rd (rd_move rfl) rfl ?_
        refine xo_rd (rd_len rfl) rfl ?_
        refine xo_rd (rd_lss rfl rfl) rfl ?_
        refine xo_nil ?_
        refine xq_seq ?_
        refine xc_dec rfl (fun hv1 => (by exfalso; omega)) (fun hv1 => ?_)
        refine xc_exit ?_
        refine xq_then_exit ?_
        refine xq_then_exit ?_
        refine xq_block_hit ?_
        refine xq_block ?_
        refine xq_seq ?_
        refine xc_region ?_
        refine xo_rd (rd_move rfl) rfl ?_
        refine xo_rd (rd_addn rfl rfl (by omega) (by omega)) rfl ?_
        refine xo_rd (rd_assign rfl) rfl ?_
        refine xo_nil ?_
      exact xq_roundK rfl (i + 1) (by omega) (by omega) (List.Sublist.refl _) (by repeat (first | exact keep_nil | refine keep_cons rfl ?_))
  · focus
      refine xc_seq ?_
      refine xc_seq ?_
      refine xc_region ?_
      refine xo_rd (rd_move rfl) rfl ?_
      refine xo_rd (rd_move rfl) rfl ?_
      refine xo_rd (rd_len rfl) rfl ?_
      refine xo_rd (rd_lss rfl rfl) rfl ?_
      refine xo_nil ?_
      refine xq_seq ?_
      refine xc_dec rfl (fun h1 => (by exfalso; omega)) (fun h1 => ?_)
      refine xc_exit ?_
      refine xq_then_exit ?_
      refine xq_then_exit ?_
      refine xq_block_hit ?_
      refine xq_seq ?_
      refine xc_seq ?_
      refine xc_region ?_
      refine xo_ef rfl (ef_makeSlice rfl rfl rfl (by omega) (by omega) (by omega) (by decide) fun r101 => ?_)
    refine xo_rd (rd_convStr (bs := List.replicate (Int.toNat 256) 0) (by rw [ints_rep]; exact Rs.fresh (List.Mem.head _)) rfl List.length_replicate) rfl ?_
    have hsz : (strOfNums (List.replicate (Int.toNat 256) 0)).size ≤ 9223372036854775807 := by rw [strOfNums_size, List.length_replicate]; decide
    generalize strOfNums (List.replicate (Int.toNat 256) 0) = nm at *
    focus
      refine xo_ef rfl (ef_call rfl (XF.mono (xf_Counts 1 ⟨by decide, by decide⟩ none 0 0 [] rfl Rs.nil (fun x h => by cases h) (by decide) nm hsz 0 u8_0 none 0 0 [] rfl Rs.nil (fun x h => by cases h) (by decide)) ?_))
      rintro v L' ⟨rfl, rfl⟩
      refine xo_rd (rd_move rfl) rfl ?_
      refine xo_grd rfl rfl (rd_build rfl rfl rfl) rfl ?_
      refine xo_gef rfl rfl rfl (ef_sliceA (vs := Bk.enc ⟨0, 0, 8388608, 0, 0, 0, 0⟩) rfl rfl (by rw [Bk.len]; decide) (by rw [Bk.len]; decide) fun r106 => ?_)
      refine xo_gef rfl rfl rfl (ef_call rfl (XF.mono (xf_Counts 1 ⟨by decide, by decide⟩ none 0 0 [] rfl Rs.nil (fun x h => by cases h) (by decide) ⟨#[]⟩ (by decide) 0 u8_0 _ 1 1 [⟨0, 0, 8388608, 0, 0, 0, 0⟩] rfl (rs1 (T := 30) (List.Mem.head _)) (fun b hb => by rw [List.mem_singleton.1 hb]; exact ⟨u4_0, ⟨by decide, by decide⟩, ⟨by decide, by decide⟩, u4_0, u4_0, u4_0, u4_0⟩) (by decide)) ?_))
      rintro v L' ⟨rfl, rfl⟩
      refine xo_rd (rd_pickt rfl rfl) rfl ?_
      refine xo_rd (rd_move rfl) rfl ?_
      refine xo_grd rfl rfl (rd_build rfl rfl rfl) rfl ?_
      refine xo_gef rfl rfl rfl (ef_call rfl (XF.mono (xf_ReportNone ⟨3, 0, 0, 0, 0, 1, 0⟩ ⟨⟨by decide, by decide⟩, ⟨by decide, by decide⟩, ⟨by decide, by decide⟩, u4_0, u4_0, ⟨by decide, by decide⟩, u4_0⟩ 77 ⟨by decide, by decide⟩) ?_))
      rintro v L' ⟨rfl, rfl⟩
      refine xo_rd (rd_pickt rfl rfl) rfl ?_
      refine xo_rd (rd_move rfl) rfl ?_
      refine xo_gef rfl rfl rfl (ef_call rfl (XF.mono (xf_works) ?_))
      rintro v L' ⟨rfl, rfl⟩
      refine xo_rd (rd_pickt rfl rfl) rfl ?_
      refine xo_rd (rd_assign rfl) rfl ?_
      refine xo_nil ?_
      refine xq_seq ?_
      refine xc_ret ?_
      exact xq_ret1 (.inl rfl) Try.results7 rfl (rfl)
end Go.Proofs.Ytogilblilljpmaa.X
/-
  Words of my own: what an argument that can be read holds, for the rows. No condition; generic over the program.
-/
namespace Go.Proofs.Ytogilblilljpmaa.X
open Go Go.RowKit
set_option linter.unusedVariables false
set_option linter.unusedSimpArgs false

/-- Cells of type T that can be read in W are those of some a that is good. -/
def Op' (P : Program) (W : World) (T : Nat) {α : Type} (enc : α → List Value) (Good : α → Prop) : Prop :=
  ∀ {H : Type} (encH : TypeId × Value → H) (fuel : Nat) (cs : List Value) (x : DataW H × List MemPlace), DataW.trod encH P W 0 (fun _ => true) true fuel T cs = some x → ∃ a, cs = enc a ∧ Good a

def InK (k : IntKind) (n : Int) : Prop := k.min ≤ n ∧ n ≤ k.max
theorem inK_u64 {n : Int} : InK .u64 n ↔ 0 ≤ n ∧ n ≤ 18446744073709551615 := Iff.rfl
theorem inK_u32 {n : Int} : InK .u32 n ↔ 0 ≤ n ∧ n ≤ 4294967295 := Iff.rfl
theorem inK_u16 {n : Int} : InK .u16 n ↔ 0 ≤ n ∧ n ≤ 65535 := Iff.rfl
theorem inK_u8 {n : Int} : InK .u8 n ↔ 0 ≤ n ∧ n ≤ 255 := Iff.rfl
theorem inK_i64 {n : Int} : InK .i64 n ↔ -9223372036854775808 ≤ n ∧ n ≤ 9223372036854775807 := Iff.rfl
theorem inK_i32 {n : Int} : InK .i32 n ↔ -2147483648 ≤ n ∧ n ≤ 2147483647 := Iff.rfl
theorem inK_of {k : IntKind} {n : Int} (h : (Lit.int k n).wf = true) : InK k n := by simpa [Lit.wf, InK] using h

/-- A slice's value: where, how many, and what its elements are. -/
structure SlV (α : Type) where
  p : Option Addr
  n : Nat
  c : Nat
  l : List α
def SlV.enc {α : Type} (v : SlV α) : List Value := [.slice v.p v.n v.c]
structure SlV.Good {α : Type} (W : World) (enc : α → List Value) (G : α → Prop) (v : SlV α) : Prop where
  len : v.l.length = v.n
  rs : Rs W [] v.p (v.l.flatMap enc)
  all : ∀ x, x ∈ v.l → G x
  cap : v.n ≤ v.c
  max : v.c ≤ 9223372036854775807
theorem exists_list {α : Type} {R : Nat → α → Prop} : ∀ (n : Nat), (∀ i, i < n → ∃ x, R i x) → ∃ l : List α, l.length = n ∧ ∀ (i : Nat) (x : α), l[i]? = some x → R i x
  | 0, _ => ⟨[], rfl, fun i x h => by cases h⟩
  | n + 1, h => by
    obtain ⟨l, hl, hr⟩ := exists_list n (fun i hi => h i (by omega))
    obtain ⟨x, hx⟩ := h n (by omega)
    refine ⟨l ++ [x], by simp [hl], fun i y hy => ?_⟩
    by_cases hi : i < n
    · rw [List.getElem?_append_left (by omega)] at hy; exact hr i y hy
    · rw [List.getElem?_append_right (by omega)] at hy
      have : i = n := by
        have := (List.getElem?_eq_some_iff.1 hy).1
        simp at this; omega
      subst this
      simp [hl] at hy
      subst hy; exact hx
theorem flat_at {α : Type} (enc : α → List Value) {s : Nat} (hs : ∀ x, (enc x).length = s) (h0 : 0 < s) : ∀ (l : List α) (j : Nat) (u : Value), (l.flatMap enc)[j]? = some u → ∃ x, l[j / s]? = some x ∧ (enc x)[j % s]? = some u
  | [], j, u, h => by simp at h
  | y :: r, j, u, h => by
    rw [List.flatMap_cons] at h
    by_cases hj : j < s
    · rw [List.getElem?_append_left (by rw [hs]; exact hj)] at h
      exact ⟨y, by rw [Nat.div_eq_of_lt hj]; rfl, by rw [Nat.mod_eq_of_lt hj]; exact h⟩
    · rw [List.getElem?_append_right (by rw [hs]; omega), hs] at h
      obtain ⟨x, h1, h2⟩ := flat_at enc hs h0 r (j - s) u h
      refine ⟨x, ?_, ?_⟩
      · rw [show j / s = (j - s) / s + 1 from by rw [Nat.div_eq_sub_div h0 (by omega)]]; simpa using h1
      · rw [show j % s = (j - s) % s from Nat.mod_eq_sub_mod (by omega)]; exact h2
section
variable {P : Program} {W : World}
theorem op_int {T : Nat} {k : IntKind} [h : Ik P T k] : Op' P W T (fun n : Int => [.int k n]) (InK k) := fun encH fuel cs x hx => by
  obtain ⟨n, h1, h2, h3⟩ := DataW.trod_int h.h hx
  exact ⟨n, h1, inK_of h3⟩
theorem op_bool {T : Nat} [h : Bo P T] : Op' P W T (fun b : Bool => [.bool b]) (fun _ => True) := fun encH fuel cs x hx => by
  obtain ⟨n, h1, h2⟩ := DataW.trod_bool h.h hx
  exact ⟨n, h1, trivial⟩
theorem op_string {T : Nat} [h : St P T] : Op' P W T (fun s : ByteArray => [.string s]) (fun s => s.size ≤ 9223372036854775807) := fun encH fuel cs x hx => by
  obtain ⟨s, h1, h2, h3⟩ := DataW.trod_string h.h hx
  exact ⟨s, h1, by unfold maxLen at h3; exact h3⟩
theorem op_slice {α : Type} {T e s : Nat} {z : Value} {bt : Nat} {enc : α → List Value} {G : α → Prop} [h : Sl P T e] [hi : Inf P e z s bt] (he : Op' P W e enc G) (hs : ∀ x, (enc x).length = s) (h0 : 0 < s) :
    Op' P W T (SlV.enc (α := α)) (SlV.Good W enc G) := fun encH fuel cs x hx => by
  have hc : P.cellsOf e = s := by
    obtain ⟨i, h1, h2, h3, h4, h5⟩ := hi.h
    simp [Program.cellsOf, h1, h3]
  rcases DataW.trod_slice h.h hx with ⟨h1, _⟩ | ⟨a, len, cap, elems, rest, m, _, h1, _, _, hl, hm, hlen, hel, _, _⟩
  · exact ⟨⟨none, 0, 0, []⟩, h1, ⟨rfl, Rs.nil, (fun _ h => by cases h), Nat.le_refl _, Nat.zero_le _⟩⟩
  · rw [hc] at hel
    have hex : ∀ i, i < len → ∃ x, W.cells? 0 (a.add (i * s)) s = some (enc x) ∧ G x := fun i hi => by
      have h2 := hel i hi
      rw [List.getElem?_eq_getElem (by omega)] at h2
      obtain ⟨ecs, h3, h4⟩ := Option.bind_eq_some_iff.1 h2
      obtain ⟨x, rfl, hg⟩ := he encH m ecs _ h4
      exact ⟨x, h3, hg⟩
    obtain ⟨l, hl1, hl2⟩ := exists_list len hex
    refine ⟨⟨some a, len, cap, l⟩, h1, ⟨hl1, ?_, ?_, hl, by unfold maxLen at hm; exact hm⟩⟩
    · intro j u hj
      have cell : ∀ j u, (l.flatMap enc)[j]? = some u → W.cell? (a.add j) = some u := fun j u hj => by
        obtain ⟨x, h2, h3⟩ := flat_at enc hs h0 l j u hj
        have h4 := (hl2 _ _ h2).1
        have h5 := (World.cells?_some h4).2.2 (j % s) (Nat.mod_lt _ h0)
        rw [h3] at h5
        have h6 : (a.add (j / s * s)).add (j % s) = a.add j := by
          have hdm : j / s * s + j % s = j := by rw [Nat.mul_comm]; exact Nat.div_add_mod j s
          obtain ⟨b, o, sp⟩ := a
          unfold Addr.add
          by_cases e1 : j / s * s = 0
          · rw [if_pos e1]
            have e2 : j % s = j := by omega
            rw [e2]
          · rw [if_neg e1, if_neg (show ¬ j = 0 by omega)]
            by_cases e2 : j % s = 0
            · rw [if_pos e2]
              have : j / s * s = j := by omega
              rw [this]
            · rw [if_neg e2]
              simp only [Addr.mk.injEq, true_and, and_true]
              omega
        rw [h6] at h5
        exact h5
      have hpos : 0 < (l.flatMap enc).length := Nat.lt_of_le_of_lt (Nat.zero_le j) (List.getElem?_eq_some_iff.1 hj).1
      have hsp : a.spot = none := by
        have := cell 0 _ (List.getElem?_eq_getElem hpos)
        have e0 : a.add 0 = a := rfl
        rw [e0] at this
        unfold World.cell? at this
        split at this
        · split at this
          · cases this
          · rename_i hh; simpa using hh
        · cases this
      obtain ⟨b, o, sp⟩ := a
      subst hsp
      refine ⟨b, o, rfl, Cl.base ?_⟩
      have := cell j u hj
      rwa [add_zero'] at this
    · intro x hx
      obtain ⟨i, hi1, hi2⟩ := List.getElem_of_mem hx
      exact (hl2 i x (by rw [List.getElem?_eq_getElem hi1, hi2])).2
/-- A struct's field. -/
theorem op_field {H : Type} {encH : TypeId × Value → H} {fuel T : Nat} {cs : List Value} {x : DataW H × List MemPlace} {fs : Array Field} (hT : P.underlying T = some (.struct fs)) (h : DataW.trod encH P W 0 (fun _ => true) true fuel T cs = some x) :
    cs.length = P.cellsOf T ∧ ∀ (i : Nat) (f : Field), fs[i]? = some f → ∃ m y, DataW.trod encH P W 0 (fun _ => true) true m f.type ((cs.drop f.offset).take (P.cellsOf f.type)) = some y := by
  obtain ⟨xs, m, _, _, h1, h2, h3⟩ := DataW.trod_struct hT h
  refine ⟨h1, fun i f hf => ⟨m, xs[i]'(by have := (Array.getElem?_eq_some_iff.1 hf).1; omega), ?_⟩⟩
  rw [h3 i f hf, List.getElem?_eq_getElem]
theorem op_field' {α : Type} {enc : α → List Value} {G : α → Prop} {T i off Tf s : Nat} {z : Value} {bt : Nat} [hF : Fd P T i off Tf] [hi : Inf P Tf z s bt] (he : Op' P W Tf enc G) {H : Type} {encH : TypeId × Value → H} {fuel : Nat} {cs : List Value} {x : DataW H × List MemPlace}
    (h : DataW.trod encH P W 0 (fun _ => true) true fuel T cs = some x) : ∃ a, (cs.drop off).take s = enc a ∧ G a := by
  obtain ⟨fs, f, h1, h2, h3, h4⟩ := hF.h
  have hc : P.cellsOf Tf = s := by
    obtain ⟨i, h1, h2, h3, h4, h5⟩ := hi.h
    simp [Program.cellsOf, h1, h3]
  obtain ⟨_, h5⟩ := op_field h1 h
  obtain ⟨m, y, h6⟩ := h5 i f h2
  rw [h3, h4, hc] at h6
  exact he encH m _ y h6
theorem op_len {T s : Nat} {z : Value} {bt i off Tf : Nat} [hF : Fd P T i off Tf] [hi : Inf P T z s bt] {H : Type} {encH : TypeId × Value → H} {fuel : Nat} {cs : List Value} {x : DataW H × List MemPlace}
    (h : DataW.trod encH P W 0 (fun _ => true) true fuel T cs = some x) : cs.length = s := by
  obtain ⟨fs, f, h1, h2, h3, h4⟩ := hF.h
  have hc : P.cellsOf T = s := by
    obtain ⟨i, h1, h2, h3, h4, h5⟩ := hi.h
    simp [Program.cellsOf, h1, h3]
  rw [← hc]
  exact (op_field h1 h).1
/-- The argument's value itself. -/
theorem top_one {α : Type} {T : Nat} {enc : α → List Value} {G : α → Prop} (he : Op' P W T enc G) {H : Type} {encH : TypeId × Value → H} {v : Value} {d : DataW H} {ps : List MemPlace} (h : DataW.Trod encH P W 0 (fun _ => true) true T v d ps) (h1 : v.cells.toList = [v]) : ∃ a, [v] = enc a ∧ G a := by
  obtain ⟨fuel, hf⟩ := h
  rw [h1] at hf
  exact he encH fuel _ _ hf
theorem top_agg {α : Type} {T : Nat} {enc : α → List Value} {G : α → Prop} (he : Op' P W T enc G) {H : Type} {encH : TypeId × Value → H} {cs : Array Value} {d : DataW H} {ps : List MemPlace} (h : DataW.Trod encH P W 0 (fun _ => true) true T (.agg cs) d ps) : ∃ a, cs = (enc a).toArray ∧ G a := by
  obtain ⟨fuel, hf⟩ := h
  obtain ⟨a, h1, h2⟩ := he encH fuel _ _ hf
  refine ⟨a, ?_, h2⟩
  have h3 : cs.toList = enc a := h1
  rw [← h3]
end
end Go.Proofs.Ytogilblilljpmaa.X
