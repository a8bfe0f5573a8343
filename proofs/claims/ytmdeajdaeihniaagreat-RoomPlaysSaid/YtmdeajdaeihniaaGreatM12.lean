/-
  Texts of my own, put together: walks and laws for this seat. No condition.
-/
import Derived.Test.YtmdeajdaeihniaaGreatM11
/-
  Chapter 25: the reference's room: who subscribes: a walk of my own.
-/
namespace Go.Proofs.YtmdeajdaeihniaaGreat.X
open Go Go.RowKit
set_option linter.unusedVariables false
set_option linter.unusedSimpArgs false
theorem wxF_mem {ws : List Wx} {k : Int} : (wxF ws k).isSome = true ↔ k ∈ ws.map fun u => u.a.id := by
  unfold wxF
  rw [List.find?_isSome, List.mem_map]
  exact ⟨fun ⟨u, hu, he⟩ => ⟨u, hu, by simpa using he⟩, fun ⟨u, hu, he⟩ => ⟨u, hu, by simp [he]⟩⟩
theorem getId_memS {ms : List Mb} {k : Int} : (getId ms k).isSome = true ↔ k ∈ ms.map Mb.id := by
  unfold getId
  rw [List.find?_isSome, List.mem_map]
  exact ⟨fun ⟨u, hu, he⟩ => ⟨u, hu, by simpa using he⟩, fun ⟨u, hu, he⟩ => ⟨u, hu, by simp [he]⟩⟩
theorem wx_get {ws : List Wx} {ms : List Mb} (h : (ws.map fun u => u.a.id) = ms.map Mb.id) (k : Int) : (wxF ws k).isSome = (getId ms k).isSome := by
  rw [Bool.eq_iff_iff, wxF_mem, getId_memS, h]
theorem filter_lt {l : List Int} {c : Int} : (l.filter fun x => !decide (x = c)).length < l.length ↔ c ∈ l := by
  induction l with
  | nil => simp
  | cons a r ih =>
    by_cases h : a = c
    · have := List.length_filter_le (fun x => !decide (x = c)) r
      rw [List.filter_cons_of_neg (by simp [h])]
      simp [h]; omega
    · rw [List.filter_cons_of_pos (by simp [h])]
      simp only [List.length_cons, List.mem_cons]
      constructor
      · intro hlt; exact .inr (ih.1 (by omega))
      · rintro (h2 | h2)
        · exact absurd h2.symm h
        · have := ih.2 h2; omega
theorem xf_rOf' {W : World} {L : List Blk} (x : Rr) (hx : x.At W L) (id : Int) (b : Bool) (hb : (wxF x.ws id).isSome = b) : XF Tryz.prog W 44 #[.agg x.enc.toArray, .int .i64 id] L (fun v L' => v = .tuple #[.agg ((wxF x.ws id).getD wx0).enc.toArray, .bool b] ∧ L' = L) := hb ▸ xf_rOf x hx id
structure SuS where
  i : Nat
  ws : List Wx
  p : Option Addr
  c : Nat
  l : List Blk
  g : List Blk
set_option maxHeartbeats 3200000 in
theorem xf_r2Subscribe {W : World} {L : List Blk} (L0 : List Blk) (hs : ∀ z, z ∈ L0 → z ∈ L) (x : Rr) (hx : x.At W L0) (id : Int) (ct : Bool) (p : Option Addr) (n c : Nat) (cs : List Int) (hn : cs.length = n) (hr : Rs W L0 p (ints .i64 cs)) (hm : n ≤ 1000) (hnc : n ≤ c) (hids : (x.ws.map fun u => u.a.id) = x.ms.map Mb.id) : XF Tryz.prog W 34 #[.agg x.enc.toArray, .int .i64 id, .bool ct, .slice p n c] L (fun v L' => ∃ y N, v = .tuple #[.agg (Rr.enc y).toArray, .int .i64 (sbE x.ra id cs)] ∧ y.ra = sbA x.ra id ct cs ∧ y.At W (N ++ L0) ∧ L' = N ++ L) := by
  have hxL : ∀ L', (∀ z, z ∈ L → z ∈ L') → x.At W L' := fun L' h => hx.mono fun z hz => h z (hs z hz)
  have hxl := hx.xl
  have hrL := hr.mono hs
  refine xf_enter (args := [_, _, _, _]) Tryz.func34 rfl Tryz.ntmps34 rfl ?_
  obtain ⟨b0, hb0⟩ : ∃ b, (wxF x.ws id).isSome = b := ⟨_, rfl⟩
  have hof := fun L' h => xf_rOf' (W := W) (L := L') x (hxL L' h) id b0 hb0
  focus
    refine xc_seq ?_
    refine xc_region ?_
    refine xo_ef rfl (ef_box rfl fun r4 => ?_)
    refine xo_ef rfl (ef_alloc fun r8 => ?_)
    refine xo_rd (rd_assign rfl) rfl ?_
    refine xo_nil ?_
    refine xq_seq ?_
    refine xc_seq ?_
    refine xc_region ?_
    refine xo_rd (rd_loadB rfl Kn.o1 (by rfl)) rfl ?_
    refine xo_rd (rd_move rfl) rfl ?_
    refine xo_ef rfl (ef_call rfl (XF.mono (hof _ (by intro z hz; simp [hz])) ?_))
    rintro v L' ⟨rfl, rfl⟩
    refine xo_rd (rd_move rfl) rfl ?_
    refine xo_rd (rd_extract rfl rfl) rfl ?_
    refine xo_rd (rd_extract rfl rfl) rfl ?_
    refine xo_ef rfl (ef_alloc fun r10 => ?_)
    refine xo_ef rfl (ef_storeB [] _ rfl rfl (by first | rfl | assumption) rfl rfl rfl ?_)
    refine xo_rd (rd_assign rfl) rfl ?_
    refine xo_nil ?_
    refine xq_seq ?_
    refine xc_seq ?_
    refine xc_seq ?_
    refine xc_region ?_
    refine xo_rd (rd_assign rfl) rfl ?_
    refine xo_nil ?_
    refine xq_seq ?_
    refine xc_block ?_
  refine xc_loopK (ι := Nat × Bool) (fun s => s.1 ≤ n ∧ s.2 = ((id :: cs.take s.1).all fun k => (wxF x.ws k).isSome)) (fun s => n - s.1) (fun s => [(1, .int .i64 id), (2, .bool ct), (3, .slice p n c), (4, .pointer (some ⟨r4, 0, none⟩)), (8, .pointer (some ⟨r8, 0, none⟩)), (9, .int .i64 0), (11, .bool s.2), (12, .int .i64 s.1)]) (0, b0) ⟨Nat.zero_le _, by simp [hb0]⟩ (by repeat (first | exact keep_nil | refine keep_cons rfl ?_)) ?_
  rintro ⟨i, b⟩ ⟨hi, hbi⟩
  dsimp only at hi hbi ⊢
  by_cases hin : i < n
  · obtain ⟨bb, o, hpb, hc⟩ := hrL.int (i := i) (by omega)
    subst hpb
    have hc2 : ∀ L', (∀ z, z ∈ L → z ∈ L') → Cl W L' bb (o + (i : Int).toNat * 1) (.int .i64 cs[i]) := fun L' h => hc.mono h
    obtain ⟨k, hk⟩ : ∃ k, cs[i] = k := ⟨_, rfl⟩
    rw [hk] at hc2
    obtain ⟨b1, hb1⟩ : ∃ b, (wxF x.ws k).isSome = b := ⟨_, rfl⟩
    have hof1 := fun L' h => xf_rOf' (W := W) (L := L') x (hxL L' h) k b1 hb1
    have htk : ((id :: cs.take (i + 1)).all fun k => (wxF x.ws k).isSome) = (b && b1) := by
      have e1 : cs.take (i + 1) = cs.take i ++ [k] := by rw [List.take_add_one, List.getElem?_eq_getElem (by omega), hk]; rfl
      rw [e1, ← List.cons_append, List.all_append, ← hbi]
      simp [hb1]
    cases b with
    | true =>
      focus
        refine xc_seq ?_
        refine xc_seq ?_
        refine xc_region ?_
        refine xo_rd (rd_move rfl) rfl ?_
        refine xo_rd (rd_move rfl) rfl ?_
        refine xo_rd (rd_len rfl) rfl ?_
        refine xo_rd (rd_lss rfl rfl) rfl ?_
        refine xo_nil ?_
        refine xq_seq ?_
        refine xc_dec rfl (fun h1 => ?_) (fun h1 => (by exfalso; omega))
        refine xc_skip ?_
        refine xq_seq ?_
        refine xc_seq ?_
        refine xc_block ?_
        refine xc_seq ?_
        refine xc_drawML [0, 0, 0, 6, 8, 17, 32, 64, 64, 0, 767, 2047] [0, 0, 0, 6, 8, 17, 32, 64, 64, 0, 767, 2047] (by kernel_rfl) (by kernel_rfl) (by kernel_rfl) ?_
        refine xm_take 0 (m' := 1) rfl (by kernel_rfl) (by first | exact Sb.refl | exact Sb.nil | (repeat (first | exact Sb.nil | exact Sb.refl | exact Sb.app0 | apply Sb.keep | apply Sb.keepApp | apply Sb.cons | apply Sb.app))) (rd_loadB rfl Kn.o2 (by rfl)) rfl (by kernel_rfl) ?_
        refine xm_take 1 (m' := 3) rfl (by kernel_rfl) (by first | exact Sb.refl | exact Sb.nil | (repeat (first | exact Sb.nil | exact Sb.refl | exact Sb.app0 | apply Sb.keep | apply Sb.keepApp | apply Sb.cons | apply Sb.app))) (rd_move rfl) rfl (by kernel_rfl) ?_
        refine xm_take 2 (m' := 7) rfl (by kernel_rfl) (by first | exact Sb.refl | exact Sb.nil | (repeat (first | exact Sb.nil | exact Sb.refl | exact Sb.app0 | apply Sb.keep | apply Sb.keepApp | apply Sb.cons | apply Sb.app))) (rd_move rfl) rfl (by kernel_rfl) ?_
        refine xm_take 3 (m' := 15) rfl (by kernel_rfl) (by first | exact Sb.refl | exact Sb.nil | (repeat (first | exact Sb.nil | exact Sb.refl | exact Sb.app0 | apply Sb.keep | apply Sb.keepApp | apply Sb.cons | apply Sb.app))) (rd_indexAddr rfl rfl (by omega) (by omega)) rfl (by kernel_rfl) ?_
        refine xm_take 4 (m' := 31) rfl (by kernel_rfl) (by first | exact Sb.refl | exact Sb.nil | (repeat (first | exact Sb.nil | exact Sb.refl | exact Sb.app0 | apply Sb.keep | apply Sb.keepApp | apply Sb.cons | apply Sb.app))) (rd_load1 rfl (hc2 _ (by intro z hz; simp [hz]))) rfl (by kernel_rfl) ?_
        refine xm_two 5 9 (mi := 63) (mk := 543) rfl rfl (by kernel_rfl) rfl rfl (by kernel_rfl) (by kernel_rfl) (ef_call rfl (XF.mono (hof1 _ (by intro z hz; simp [hz])) ?_)) (ef_alloc fun r13 => ⟨(by first | exact Sb.refl | exact Sb.nil | (repeat (first | exact Sb.nil | exact Sb.refl | exact Sb.app0 | apply Sb.keep | apply Sb.keepApp | apply Sb.cons | apply Sb.app))), ?_⟩)
        rotate_left
        rotate_right
        rintro v L' ⟨rfl, rfl⟩
        refine ⟨(by first | exact Sb.refl | exact Sb.nil | (repeat (first | exact Sb.nil | exact Sb.refl | exact Sb.app0 | apply Sb.keep | apply Sb.keepApp | apply Sb.cons | apply Sb.app))), ?_⟩
        refine xm_take 6 (m' := 127) rfl (by kernel_rfl) (by first | exact Sb.refl | exact Sb.nil | (repeat (first | exact Sb.nil | exact Sb.refl | exact Sb.app0 | apply Sb.keep | apply Sb.keepApp | apply Sb.cons | apply Sb.app))) (rd_move rfl) rfl (by kernel_rfl) ?_
        refine xm_take 7 (m' := 255) rfl (by kernel_rfl) (by first | exact Sb.refl | exact Sb.nil | (repeat (first | exact Sb.nil | exact Sb.refl | exact Sb.app0 | apply Sb.keep | apply Sb.keepApp | apply Sb.cons | apply Sb.app))) (rd_extract rfl rfl) rfl (by kernel_rfl) ?_
        refine xm_take 8 (m' := 511) rfl (by kernel_rfl) (by first | exact Sb.refl | exact Sb.nil | (repeat (first | exact Sb.nil | exact Sb.refl | exact Sb.app0 | apply Sb.keep | apply Sb.keepApp | apply Sb.cons | apply Sb.app))) (rd_extract rfl rfl) rfl (by kernel_rfl) ?_
        refine xm_one 9 (m' := 1023) rfl (by kernel_rfl) rfl (by kernel_rfl) (ef_alloc fun r13 => ?_)
        refine ⟨(by first | exact Sb.refl | exact Sb.nil | (repeat (first | exact Sb.nil | exact Sb.refl | exact Sb.app0 | apply Sb.keep | apply Sb.keepApp | apply Sb.cons | apply Sb.app))), ?_⟩
        refine xm_one 10 (m' := 2047) rfl (by kernel_rfl) rfl (by kernel_rfl) (ef_storeB [] _ rfl rfl (by first | rfl | assumption) rfl rfl rfl ?_)
        refine ⟨(by first | exact Sb.refl | exact Sb.nil | (repeat (first | exact Sb.nil | exact Sb.refl | exact Sb.app0 | apply Sb.keep | apply Sb.keepApp | apply Sb.cons | apply Sb.app))), ?_⟩
        refine xm_take 11 (m' := 4095) rfl (by kernel_rfl) (by first | exact Sb.refl | exact Sb.nil | (repeat (first | exact Sb.nil | exact Sb.refl | exact Sb.app0 | apply Sb.keep | apply Sb.keepApp | apply Sb.cons | apply Sb.app))) (rd_assign rfl) rfl (by kernel_rfl) ?_
        refine xm_done (by kernel_rfl) ?_
        refine xq_seq ?_
        refine xc_region ?_
        refine xo_rd (rd_move rfl) rfl ?_
        refine xo_rd (rd_move rfl) rfl ?_
        refine xo_grd rfl rfl (rd_move rfl) rfl ?_
        refine xo_rd (rd_pickt rfl rfl) rfl ?_
        refine xo_rd (rd_assign rfl) rfl ?_
        refine xo_nil ?_
        refine xq_block ?_
        refine xq_seq ?_
        refine xc_region ?_
        refine xo_rd (rd_move rfl) rfl ?_
        refine xo_rd (rd_addn rfl rfl (by omega) (by omega)) rfl ?_
        refine xo_rd (rd_assign rfl) rfl ?_
        refine xo_nil ?_
        rotate_left
        refine xm_one 5 (m' := 575) rfl (by kernel_rfl) rfl (by kernel_rfl) (ef_call rfl (XF.mono (hof1 _ (by intro z hz; simp [hz])) ?_))
        rintro v L' ⟨rfl, rfl⟩
        refine ⟨(by first | exact Sb.refl | exact Sb.nil | (repeat (first | exact Sb.nil | exact Sb.refl | exact Sb.app0 | apply Sb.keep | apply Sb.keepApp | apply Sb.cons | apply Sb.app))), ?_⟩
        refine xm_take 6 (m' := 639) rfl (by kernel_rfl) (by first | exact Sb.refl | exact Sb.nil | (repeat (first | exact Sb.nil | exact Sb.refl | exact Sb.app0 | apply Sb.keep | apply Sb.keepApp | apply Sb.cons | apply Sb.app))) (rd_move rfl) rfl (by kernel_rfl) ?_
        refine xm_take 7 (m' := 767) rfl (by kernel_rfl) (by first | exact Sb.refl | exact Sb.nil | (repeat (first | exact Sb.nil | exact Sb.refl | exact Sb.app0 | apply Sb.keep | apply Sb.keepApp | apply Sb.cons | apply Sb.app))) (rd_extract rfl rfl) rfl (by kernel_rfl) ?_
        refine xm_take 8 (m' := 1023) rfl (by kernel_rfl) (by first | exact Sb.refl | exact Sb.nil | (repeat (first | exact Sb.nil | exact Sb.refl | exact Sb.app0 | apply Sb.keep | apply Sb.keepApp | apply Sb.cons | apply Sb.app))) (rd_extract rfl rfl) rfl (by kernel_rfl) ?_
        refine xm_one 10 (m' := 2047) rfl (by kernel_rfl) rfl (by kernel_rfl) (ef_storeB [] _ rfl rfl (by first | rfl | assumption) rfl rfl rfl ?_)
        refine ⟨(by first | exact Sb.refl | exact Sb.nil | (repeat (first | exact Sb.nil | exact Sb.refl | exact Sb.app0 | apply Sb.keep | apply Sb.keepApp | apply Sb.cons | apply Sb.app))), ?_⟩
        refine xm_take 11 (m' := 4095) rfl (by kernel_rfl) (by first | exact Sb.refl | exact Sb.nil | (repeat (first | exact Sb.nil | exact Sb.refl | exact Sb.app0 | apply Sb.keep | apply Sb.keepApp | apply Sb.cons | apply Sb.app))) (rd_assign rfl) rfl (by kernel_rfl) ?_
        refine xm_done (by kernel_rfl) ?_
        refine xq_seq ?_
        refine xc_region ?_
        refine xo_rd (rd_move rfl) rfl ?_
        refine xo_rd (rd_move rfl) rfl ?_
        refine xo_grd rfl rfl (rd_move rfl) rfl ?_
        refine xo_rd (rd_pickt rfl rfl) rfl ?_
        refine xo_rd (rd_assign rfl) rfl ?_
        refine xo_nil ?_
        refine xq_block ?_
        refine xq_seq ?_
        refine xc_region ?_
        refine xo_rd (rd_move rfl) rfl ?_
        refine xo_rd (rd_addn rfl rfl (by omega) (by omega)) rfl ?_
        refine xo_rd (rd_assign rfl) rfl ?_
        refine xo_nil ?_
        rotate_left
      all_goals exact xq_roundK rfl (i + 1, b1) ⟨by dsimp only; omega, by dsimp only; rw [htk]; rfl⟩ (by dsimp only; omega) (List.sublist_cons_self _ _) (by repeat (first | exact keep_nil | refine keep_cons rfl ?_))
    | false =>
      focus
        refine xc_seq ?_
        refine xc_seq ?_
        refine xc_region ?_
        refine xo_rd (rd_move rfl) rfl ?_
        refine xo_rd (rd_move rfl) rfl ?_
        refine xo_rd (rd_len rfl) rfl ?_
        refine xo_rd (rd_lss rfl rfl) rfl ?_
        refine xo_nil ?_
        refine xq_seq ?_
        refine xc_dec rfl (fun h1 => ?_) (fun h1 => (by exfalso; omega))
        refine xc_skip ?_
        refine xq_seq ?_
        refine xc_seq ?_
        refine xc_block ?_
        refine xc_seq ?_
        refine xc_drawML [0, 0, 0, 6, 8, 17, 32, 64, 64, 0, 767, 2047] [0, 0, 0, 6, 8, 17, 32, 64, 64, 0, 767, 2047] (by kernel_rfl) (by kernel_rfl) (by kernel_rfl) ?_
        refine xm_take 0 (m' := 1) rfl (by kernel_rfl) (by first | exact Sb.refl | exact Sb.nil | (repeat (first | exact Sb.nil | exact Sb.refl | exact Sb.app0 | apply Sb.keep | apply Sb.keepApp | apply Sb.cons | apply Sb.app))) (rd_loadB rfl Kn.o2 (by rfl)) rfl (by kernel_rfl) ?_
        refine xm_take 1 (m' := 3) rfl (by kernel_rfl) (by first | exact Sb.refl | exact Sb.nil | (repeat (first | exact Sb.nil | exact Sb.refl | exact Sb.app0 | apply Sb.keep | apply Sb.keepApp | apply Sb.cons | apply Sb.app))) (rd_move rfl) rfl (by kernel_rfl) ?_
        refine xm_take 2 (m' := 7) rfl (by kernel_rfl) (by first | exact Sb.refl | exact Sb.nil | (repeat (first | exact Sb.nil | exact Sb.refl | exact Sb.app0 | apply Sb.keep | apply Sb.keepApp | apply Sb.cons | apply Sb.app))) (rd_move rfl) rfl (by kernel_rfl) ?_
        refine xm_take 3 (m' := 15) rfl (by kernel_rfl) (by first | exact Sb.refl | exact Sb.nil | (repeat (first | exact Sb.nil | exact Sb.refl | exact Sb.app0 | apply Sb.keep | apply Sb.keepApp | apply Sb.cons | apply Sb.app))) (rd_indexAddr rfl rfl (by omega) (by omega)) rfl (by kernel_rfl) ?_
        refine xm_take 4 (m' := 31) rfl (by kernel_rfl) (by first | exact Sb.refl | exact Sb.nil | (repeat (first | exact Sb.nil | exact Sb.refl | exact Sb.app0 | apply Sb.keep | apply Sb.keepApp | apply Sb.cons | apply Sb.app))) (rd_load1 rfl (hc2 _ (by intro z hz; simp [hz]))) rfl (by kernel_rfl) ?_
        refine xm_two 5 9 (mi := 63) (mk := 543) rfl rfl (by kernel_rfl) rfl rfl (by kernel_rfl) (by kernel_rfl) (ef_call rfl (XF.mono (hof1 _ (by intro z hz; simp [hz])) ?_)) (ef_alloc fun r13 => ⟨(by first | exact Sb.refl | exact Sb.nil | (repeat (first | exact Sb.nil | exact Sb.refl | exact Sb.app0 | apply Sb.keep | apply Sb.keepApp | apply Sb.cons | apply Sb.app))), ?_⟩)
        rotate_left
        rotate_right
        rintro v L' ⟨rfl, rfl⟩
        refine ⟨(by first | exact Sb.refl | exact Sb.nil | (repeat (first | exact Sb.nil | exact Sb.refl | exact Sb.app0 | apply Sb.keep | apply Sb.keepApp | apply Sb.cons | apply Sb.app))), ?_⟩
        refine xm_take 6 (m' := 127) rfl (by kernel_rfl) (by first | exact Sb.refl | exact Sb.nil | (repeat (first | exact Sb.nil | exact Sb.refl | exact Sb.app0 | apply Sb.keep | apply Sb.keepApp | apply Sb.cons | apply Sb.app))) (rd_move rfl) rfl (by kernel_rfl) ?_
        refine xm_take 7 (m' := 255) rfl (by kernel_rfl) (by first | exact Sb.refl | exact Sb.nil | (repeat (first | exact Sb.nil | exact Sb.refl | exact Sb.app0 | apply Sb.keep | apply Sb.keepApp | apply Sb.cons | apply Sb.app))) (rd_extract rfl rfl) rfl (by kernel_rfl) ?_
        refine xm_take 8 (m' := 511) rfl (by kernel_rfl) (by first | exact Sb.refl | exact Sb.nil | (repeat (first | exact Sb.nil | exact Sb.refl | exact Sb.app0 | apply Sb.keep | apply Sb.keepApp | apply Sb.cons | apply Sb.app))) (rd_extract rfl rfl) rfl (by kernel_rfl) ?_
        refine xm_one 9 (m' := 1023) rfl (by kernel_rfl) rfl (by kernel_rfl) (ef_alloc fun r13 => ?_)
        refine ⟨(by first | exact Sb.refl | exact Sb.nil | (repeat (first | exact Sb.nil | exact Sb.refl | exact Sb.app0 | apply Sb.keep | apply Sb.keepApp | apply Sb.cons | apply Sb.app))), ?_⟩
        refine xm_one 10 (m' := 2047) rfl (by kernel_rfl) rfl (by kernel_rfl) (ef_storeB [] _ rfl rfl (by first | rfl | assumption) rfl rfl rfl ?_)
        refine ⟨(by first | exact Sb.refl | exact Sb.nil | (repeat (first | exact Sb.nil | exact Sb.refl | exact Sb.app0 | apply Sb.keep | apply Sb.keepApp | apply Sb.cons | apply Sb.app))), ?_⟩
        refine xm_take 11 (m' := 4095) rfl (by kernel_rfl) (by first | exact Sb.refl | exact Sb.nil | (repeat (first | exact Sb.nil | exact Sb.refl | exact Sb.app0 | apply Sb.keep | apply Sb.keepApp | apply Sb.cons | apply Sb.app))) (rd_assign rfl) rfl (by kernel_rfl) ?_
        refine xm_done (by kernel_rfl) ?_
        refine xq_seq ?_
        refine xc_region ?_
        refine xo_rd (rd_move rfl) rfl ?_
        refine xo_rd (rd_move rfl) rfl ?_
        refine xo_gskip rfl rfl rfl rfl ?_
        refine xo_rd (rd_pickf rfl rfl) rfl ?_
        refine xo_rd (rd_assign rfl) rfl ?_
        refine xo_nil ?_
        refine xq_block ?_
        refine xq_seq ?_
        refine xc_region ?_
        refine xo_rd (rd_move rfl) rfl ?_
        refine xo_rd (rd_addn rfl rfl (by omega) (by omega)) rfl ?_
        refine xo_rd (rd_assign rfl) rfl ?_
        refine xo_nil ?_
        rotate_left
        refine xm_one 5 (m' := 575) rfl (by kernel_rfl) rfl (by kernel_rfl) (ef_call rfl (XF.mono (hof1 _ (by intro z hz; simp [hz])) ?_))
        rintro v L' ⟨rfl, rfl⟩
        refine ⟨(by first | exact Sb.refl | exact Sb.nil | (repeat (first | exact Sb.nil | exact Sb.refl | exact Sb.app0 | apply Sb.keep | apply Sb.keepApp | apply Sb.cons | apply Sb.app))), ?_⟩
        refine xm_take 6 (m' := 639) rfl (by kernel_rfl) (by first | exact Sb.refl | exact Sb.nil | (repeat (first | exact Sb.nil | exact Sb.refl | exact Sb.app0 | apply Sb.keep | apply Sb.keepApp | apply Sb.cons | apply Sb.app))) (rd_move rfl) rfl (by kernel_rfl) ?_
        refine xm_take 7 (m' := 767) rfl (by kernel_rfl) (by first | exact Sb.refl | exact Sb.nil | (repeat (first | exact Sb.nil | exact Sb.refl | exact Sb.app0 | apply Sb.keep | apply Sb.keepApp | apply Sb.cons | apply Sb.app))) (rd_extract rfl rfl) rfl (by kernel_rfl) ?_
        refine xm_take 8 (m' := 1023) rfl (by kernel_rfl) (by first | exact Sb.refl | exact Sb.nil | (repeat (first | exact Sb.nil | exact Sb.refl | exact Sb.app0 | apply Sb.keep | apply Sb.keepApp | apply Sb.cons | apply Sb.app))) (rd_extract rfl rfl) rfl (by kernel_rfl) ?_
        refine xm_one 10 (m' := 2047) rfl (by kernel_rfl) rfl (by kernel_rfl) (ef_storeB [] _ rfl rfl (by first | rfl | assumption) rfl rfl rfl ?_)
        refine ⟨(by first | exact Sb.refl | exact Sb.nil | (repeat (first | exact Sb.nil | exact Sb.refl | exact Sb.app0 | apply Sb.keep | apply Sb.keepApp | apply Sb.cons | apply Sb.app))), ?_⟩
        refine xm_take 11 (m' := 4095) rfl (by kernel_rfl) (by first | exact Sb.refl | exact Sb.nil | (repeat (first | exact Sb.nil | exact Sb.refl | exact Sb.app0 | apply Sb.keep | apply Sb.keepApp | apply Sb.cons | apply Sb.app))) (rd_assign rfl) rfl (by kernel_rfl) ?_
        refine xm_done (by kernel_rfl) ?_
        refine xq_seq ?_
        refine xc_region ?_
        refine xo_rd (rd_move rfl) rfl ?_
        refine xo_rd (rd_move rfl) rfl ?_
        refine xo_gskip rfl rfl rfl rfl ?_
        refine xo_rd (rd_pickf rfl rfl) rfl ?_
        refine xo_rd (rd_assign rfl) rfl ?_
        refine xo_nil ?_
        refine xq_block ?_
        refine xq_seq ?_
        refine xc_region ?_
        refine xo_rd (rd_move rfl) rfl ?_
        refine xo_rd (rd_addn rfl rfl (by omega) (by omega)) rfl ?_
        refine xo_rd (rd_assign rfl) rfl ?_
        refine xo_nil ?_
        rotate_left
      all_goals exact xq_roundK rfl (i + 1, false) ⟨by dsimp only; omega, by dsimp only; rw [htk]; rfl⟩ (by dsimp only; omega) (List.sublist_cons_self _ _) (by repeat (first | exact keep_nil | refine keep_cons rfl ?_))
  · rw [List.take_of_length_le (by omega)] at hbi
    have hall : ((id :: cs).all fun k => (getId x.ms k).isSome) = b := by
      rw [hbi]; congr 1; funext k; exact (wx_get hids k).symm
    cases b with
    | false =>
      have hE : sbE x.ra id cs = 130 := by unfold sbE; rw [if_neg (by rw [show x.ra.ms = x.ms from rfl, hall]; decide)]
      have hJ : sbA x.ra id ct cs = x.ra := by unfold sbA; rw [if_neg (by rw [hE]; decide)]
      rw [hE, hJ]
      focus
        refine xc_seq ?_
        refine xc_seq ?_
        refine xc_region ?_
        refine xo_rd (rd_move rfl) rfl ?_
        refine xo_rd (rd_move rfl) rfl ?_
        refine xo_rd (rd_len rfl) rfl ?_
        refine xo_rd (rd_lss rfl rfl) rfl ?_
        refine xo_nil ?_
        refine xq_seq ?_
        refine xc_dec rfl (fun h1 => (by exfalso; omega)) (fun h1 => ?_)
        refine xc_exit ?_
        refine xq_then_exit ?_
        refine xq_then_exit ?_
        refine xq_block_hit ?_
        refine xq_seq ?_
        refine xc_seq ?_
        refine xc_seq ?_
        refine xc_region ?_
        refine xo_rd (rd_move rfl) rfl ?_
        refine xo_rd (rd_not rfl) rfl ?_
        refine xo_nil ?_
        refine xq_seq ?_
        refine xc_condt rfl ?_
        refine xc_seq ?_
        refine xc_region ?_
        refine xo_rd (rd_loadB rfl Kn.o2 (by rfl)) rfl ?_
        refine xo_ef rfl (ef_storeB [_] _ rfl rfl (by first | rfl | assumption) rfl rfl rfl ?_)
        refine xo_rd (rd_assign rfl) rfl ?_
        refine xo_nil ?_
        refine xq_seq ?_
        refine xc_ret ?_
        refine xq_then_ret ?_
      exact xq_retB2 (.inl rfl) Tryz.results34 rfl rfl Kn.o1 rfl (List.sublist_append_right [_, _, _] _) ⟨x, [], rfl, rfl, hx, rfl⟩
    | true =>
      have hsb : sbE x.ra id cs = if dupI id cs = true then 2 else 0 := by unfold sbE; rw [if_pos (by rw [show x.ra.ms = x.ms from rfl]; exact hall)]
      focus
        refine xc_seq ?_
        refine xc_seq ?_
        refine xc_region ?_
        refine xo_rd (rd_move rfl) rfl ?_
        refine xo_rd (rd_move rfl) rfl ?_
        refine xo_rd (rd_len rfl) rfl ?_
        refine xo_rd (rd_lss rfl rfl) rfl ?_
        refine xo_nil ?_
        refine xq_seq ?_
        refine xc_dec rfl (fun h1 => (by exfalso; omega)) (fun h1 => ?_)
        refine xc_exit ?_
        refine xq_then_exit ?_
        refine xq_then_exit ?_
        refine xq_block_hit ?_
        refine xq_seq ?_
        refine xc_seq ?_
        refine xc_seq ?_
        refine xc_region ?_
        refine xo_rd (rd_move rfl) rfl ?_
        refine xo_rd (rd_not rfl) rfl ?_
        refine xo_nil ?_
        refine xq_seq ?_
        refine xc_condf rfl ?_
        refine xc_skip ?_
        refine xq_seq ?_
        refine xc_seq ?_
        refine xc_seq ?_
        refine xc_region ?_
        refine xo_rd (rd_assign rfl) rfl ?_
        refine xo_nil ?_
        refine xq_seq ?_
        refine xc_block ?_
      refine xc_loopK (ι := Nat) (fun i => i ≤ n ∧ ∀ j, j < i → ¬ (cs.getD j 0 = id ∨ cs.getD j 0 ∈ cs.take j)) (fun i => n - i) (fun i => [(1, .int .i64 id), (2, .bool ct), (3, .slice p n c), (4, .pointer (some ⟨r4, 0, none⟩)), (8, .pointer (some ⟨r8, 0, none⟩)), (9, .int .i64 0), (15, .int .i64 i)]) 0 ⟨Nat.zero_le _, fun j hj => absurd hj (Nat.not_lt_zero _)⟩ (by repeat (first | exact keep_nil | refine keep_cons rfl ?_)) ?_
      rintro i ⟨hi, hno⟩
      by_cases hin : i < n
      · obtain ⟨bb, o, hpb, hc⟩ := hrL.int (i := i) (by omega)
        subst hpb
        have hc2 : ∀ L', (∀ z, z ∈ L → z ∈ L') → Cl W L' bb (o + (i : Int).toNat * 1) (.int .i64 cs[i]) := fun L' h => hc.mono h
        obtain ⟨k, hk⟩ : ∃ k, cs[i] = k := ⟨_, rfl⟩
        rw [hk] at hc2
        have hgd : cs.getD i 0 = k := by rw [List.getD_eq_getElem?_getD, List.getElem?_eq_getElem (by omega), hk]; rfl
        have hti : (cs.take i).length = i := by rw [List.length_take]; omega
        have hdup : (k = id ∨ k ∈ cs.take i) → sbE x.ra id cs = 2 := fun h => by
          rw [hsb, if_pos]
          rw [dupI_def, List.any_eq_true]
          exact ⟨i, List.mem_range.2 (by omega), by rw [hgd]; simpa using h⟩
        have hdJ : sbE x.ra id cs = 2 → sbA x.ra id ct cs = x.ra := fun h => by unfold sbA; rw [if_neg (by rw [h]; decide)]
        have hwt := fun L' (h : ∀ z, z ∈ L → z ∈ L') => xf_rwithout (W := W) (L := L') (some ⟨bb, o, none⟩) i c (cs.take i) hti (by have := (hrL.mono h).take i; rwa [show (ints .i64 cs).take i = ints .i64 (cs.take i) by simp [ints]] at this) (by omega) k
        by_cases hk1 : k = id
        · rw [hdJ (hdup (.inl hk1)), hdup (.inl hk1)]
          focus
            refine xc_seq ?_
            refine xc_seq ?_
            refine xc_region ?_
            refine xo_rd (rd_move rfl) rfl ?_
            refine xo_rd (rd_move rfl) rfl ?_
            refine xo_rd (rd_len rfl) rfl ?_
            refine xo_rd (rd_lss rfl rfl) rfl ?_
            refine xo_nil ?_
            refine xq_seq ?_
            refine xc_dec rfl (fun h1 => ?_) (fun h1 => (by exfalso; omega))
            refine xc_skip ?_
            refine xq_seq ?_
            refine xc_seq ?_
            refine xc_block ?_
            refine xc_seq ?_
            refine xc_drawML [0, 0, 3, 4, 0, 24, 32, 64, 64, 448, 64, 64, 3136, 4160, 8768, 16448, 64, 98368, 131136] [0, 0, 3, 4, 0, 24, 32, 64, 64, 448, 64, 64, 3136, 4160, 8768, 16448, 64, 98368, 131136] (by kernel_rfl) (by kernel_rfl) (by kernel_rfl) ?_
            refine xm_take 0 (m' := 1) rfl (by kernel_rfl) (by first | exact Sb.refl | exact Sb.nil | (repeat (first | exact Sb.nil | exact Sb.refl | exact Sb.app0 | apply Sb.keep | apply Sb.keepApp | apply Sb.cons | apply Sb.app))) (rd_move rfl) rfl (by kernel_rfl) ?_
            refine xm_take 1 (m' := 3) rfl (by kernel_rfl) (by first | exact Sb.refl | exact Sb.nil | (repeat (first | exact Sb.nil | exact Sb.refl | exact Sb.app0 | apply Sb.keep | apply Sb.keepApp | apply Sb.cons | apply Sb.app))) (rd_move rfl) rfl (by kernel_rfl) ?_
            refine xm_take 2 (m' := 7) rfl (by kernel_rfl) (by first | exact Sb.refl | exact Sb.nil | (repeat (first | exact Sb.nil | exact Sb.refl | exact Sb.app0 | apply Sb.keep | apply Sb.keepApp | apply Sb.cons | apply Sb.app))) (rd_indexAddr rfl rfl (by omega) (by omega)) rfl (by kernel_rfl) ?_
            refine xm_take 3 (m' := 15) rfl (by kernel_rfl) (by first | exact Sb.refl | exact Sb.nil | (repeat (first | exact Sb.nil | exact Sb.refl | exact Sb.app0 | apply Sb.keep | apply Sb.keepApp | apply Sb.cons | apply Sb.app))) (rd_load1 rfl (hc2 _ (by intro z hz; simp [hz]))) rfl (by kernel_rfl) ?_
            refine xm_take 4 (m' := 31) rfl (by kernel_rfl) (by first | exact Sb.refl | exact Sb.nil | (repeat (first | exact Sb.nil | exact Sb.refl | exact Sb.app0 | apply Sb.keep | apply Sb.keepApp | apply Sb.cons | apply Sb.app))) (rd_move rfl) rfl (by kernel_rfl) ?_
            refine xm_take 5 (m' := 63) rfl (by kernel_rfl) (by first | exact Sb.refl | exact Sb.nil | (repeat (first | exact Sb.nil | exact Sb.refl | exact Sb.app0 | apply Sb.keep | apply Sb.keepApp | apply Sb.cons | apply Sb.app))) (rd_eql rfl rfl) rfl (by kernel_rfl) ?_
            refine xm_take 6 (m' := 127) rfl (by kernel_rfl) (by first | exact Sb.refl | exact Sb.nil | (repeat (first | exact Sb.nil | exact Sb.refl | exact Sb.app0 | apply Sb.keep | apply Sb.keepApp | apply Sb.cons | apply Sb.app))) (rd_move rfl) rfl (by kernel_rfl) ?_
            refine xm_dec 60 rfl (fun h2 => ?_) (fun h2 => (by exfalso; omega))
            refine xm_gskip 7 (m' := 255) rfl (by kernel_rfl) (by first | exact Sb.refl | exact Sb.nil | (repeat (first | exact Sb.nil | exact Sb.refl | exact Sb.app0 | apply Sb.keep | apply Sb.keepApp | apply Sb.cons | apply Sb.app))) rfl rfl rfl rfl (by kernel_rfl) ?_
            refine xm_gskip 8 (m' := 511) rfl (by kernel_rfl) (by first | exact Sb.refl | exact Sb.nil | (repeat (first | exact Sb.nil | exact Sb.refl | exact Sb.app0 | apply Sb.keep | apply Sb.keepApp | apply Sb.cons | apply Sb.app))) rfl rfl rfl rfl (by kernel_rfl) ?_
            refine xm_gskip 9 (m' := 1023) rfl (by kernel_rfl) (by first | exact Sb.refl | exact Sb.nil | (repeat (first | exact Sb.nil | exact Sb.refl | exact Sb.app0 | apply Sb.keep | apply Sb.keepApp | apply Sb.cons | apply Sb.app))) rfl rfl rfl rfl (by kernel_rfl) ?_
            refine xm_gskip 10 (m' := 2047) rfl (by kernel_rfl) (by first | exact Sb.refl | exact Sb.nil | (repeat (first | exact Sb.nil | exact Sb.refl | exact Sb.app0 | apply Sb.keep | apply Sb.keepApp | apply Sb.cons | apply Sb.app))) rfl rfl rfl rfl (by kernel_rfl) ?_
            refine xm_gskip 11 (m' := 4095) rfl (by kernel_rfl) (by first | exact Sb.refl | exact Sb.nil | (repeat (first | exact Sb.nil | exact Sb.refl | exact Sb.app0 | apply Sb.keep | apply Sb.keepApp | apply Sb.cons | apply Sb.app))) rfl rfl rfl rfl (by kernel_rfl) ?_
            refine xm_gskip 12 (m' := 8191) rfl (by kernel_rfl) (by first | exact Sb.refl | exact Sb.nil | (repeat (first | exact Sb.nil | exact Sb.refl | exact Sb.app0 | apply Sb.keep | apply Sb.keepApp | apply Sb.cons | apply Sb.app))) rfl rfl rfl rfl (by kernel_rfl) ?_
            refine xm_gskip 13 (m' := 16383) rfl (by kernel_rfl) (by first | exact Sb.refl | exact Sb.nil | (repeat (first | exact Sb.nil | exact Sb.refl | exact Sb.app0 | apply Sb.keep | apply Sb.keepApp | apply Sb.cons | apply Sb.app))) rfl rfl rfl rfl (by kernel_rfl) ?_
            refine xm_gskip 14 (m' := 32767) rfl (by kernel_rfl) (by first | exact Sb.refl | exact Sb.nil | (repeat (first | exact Sb.nil | exact Sb.refl | exact Sb.app0 | apply Sb.keep | apply Sb.keepApp | apply Sb.cons | apply Sb.app))) rfl rfl rfl rfl (by kernel_rfl) ?_
            refine xm_gskip 15 (m' := 65535) rfl (by kernel_rfl) (by first | exact Sb.refl | exact Sb.nil | (repeat (first | exact Sb.nil | exact Sb.refl | exact Sb.app0 | apply Sb.keep | apply Sb.keepApp | apply Sb.cons | apply Sb.app))) rfl rfl rfl rfl (by kernel_rfl) ?_
            refine xm_gskip 16 (m' := 131071) rfl (by kernel_rfl) (by first | exact Sb.refl | exact Sb.nil | (repeat (first | exact Sb.nil | exact Sb.refl | exact Sb.app0 | apply Sb.keep | apply Sb.keepApp | apply Sb.cons | apply Sb.app))) rfl rfl rfl rfl (by kernel_rfl) ?_
            refine xm_gskip 17 (m' := 262143) rfl (by kernel_rfl) (by first | exact Sb.refl | exact Sb.nil | (repeat (first | exact Sb.nil | exact Sb.refl | exact Sb.app0 | apply Sb.keep | apply Sb.keepApp | apply Sb.cons | apply Sb.app))) rfl rfl rfl rfl (by kernel_rfl) ?_
            refine xm_take 18 (m' := 524287) rfl (by kernel_rfl) (by first | exact Sb.refl | exact Sb.nil | (repeat (first | exact Sb.nil | exact Sb.refl | exact Sb.app0 | apply Sb.keep | apply Sb.keepApp | apply Sb.cons | apply Sb.app))) (rd_pickt rfl rfl) rfl (by kernel_rfl) ?_
            refine xm_done (by kernel_rfl) ?_
            refine xq_seq ?_
            refine xc_condt rfl ?_
            refine xc_seq ?_
            refine xc_region ?_
            refine xo_rd (rd_loadB rfl Kn.o2 (by rfl)) rfl ?_
            refine xo_ef rfl (ef_storeB [_] _ rfl rfl (by first | rfl | assumption) rfl rfl rfl ?_)
            refine xo_rd (rd_assign rfl) rfl ?_
            refine xo_nil ?_
            refine xq_seq ?_
            refine xc_ret ?_
            refine xq_block_ret ?_
            refine xq_then_ret ?_
            refine xq_then_ret ?_
            refine xq_block_ret ?_
            refine xq_then_ret ?_
          exact xq_retB2 (.inl rfl) Tryz.results34 rfl rfl Kn.o1 rfl (List.sublist_append_right [_, _, _] _) ⟨x, [], rfl, rfl, hx, rfl⟩
        · by_cases hk2 : k ∈ cs.take i
          · rw [hdJ (hdup (.inr hk2)), hdup (.inr hk2)]
            have hlt : ((cs.take i).filter fun x => !decide (x = k)).length < i := by have := filter_lt.2 hk2; rwa [hti] at this
            focus
              refine xc_seq ?_
              refine xc_seq ?_
              refine xc_region ?_
              refine xo_rd (rd_move rfl) rfl ?_
              refine xo_rd (rd_move rfl) rfl ?_
              refine xo_rd (rd_len rfl) rfl ?_
              refine xo_rd (rd_lss rfl rfl) rfl ?_
              refine xo_nil ?_
              refine xq_seq ?_
              refine xc_dec rfl (fun h1 => ?_) (fun h1 => (by exfalso; omega))
              refine xc_skip ?_
              refine xq_seq ?_
              refine xc_seq ?_
              refine xc_block ?_
              refine xc_seq ?_
              refine xc_drawML [0, 0, 3, 4, 0, 24, 32, 64, 64, 448, 64, 64, 3136, 4160, 8768, 16448, 64, 98368, 131136] [0, 0, 3, 4, 0, 24, 32, 64, 64, 448, 64, 64, 3136, 4160, 8768, 16448, 64, 98368, 131136] (by kernel_rfl) (by kernel_rfl) (by kernel_rfl) ?_
              refine xm_take 0 (m' := 1) rfl (by kernel_rfl) (by first | exact Sb.refl | exact Sb.nil | (repeat (first | exact Sb.nil | exact Sb.refl | exact Sb.app0 | apply Sb.keep | apply Sb.keepApp | apply Sb.cons | apply Sb.app))) (rd_move rfl) rfl (by kernel_rfl) ?_
              refine xm_take 1 (m' := 3) rfl (by kernel_rfl) (by first | exact Sb.refl | exact Sb.nil | (repeat (first | exact Sb.nil | exact Sb.refl | exact Sb.app0 | apply Sb.keep | apply Sb.keepApp | apply Sb.cons | apply Sb.app))) (rd_move rfl) rfl (by kernel_rfl) ?_
              refine xm_take 2 (m' := 7) rfl (by kernel_rfl) (by first | exact Sb.refl | exact Sb.nil | (repeat (first | exact Sb.nil | exact Sb.refl | exact Sb.app0 | apply Sb.keep | apply Sb.keepApp | apply Sb.cons | apply Sb.app))) (rd_indexAddr rfl rfl (by omega) (by omega)) rfl (by kernel_rfl) ?_
              refine xm_take 3 (m' := 15) rfl (by kernel_rfl) (by first | exact Sb.refl | exact Sb.nil | (repeat (first | exact Sb.nil | exact Sb.refl | exact Sb.app0 | apply Sb.keep | apply Sb.keepApp | apply Sb.cons | apply Sb.app))) (rd_load1 rfl (hc2 _ (by intro z hz; simp [hz]))) rfl (by kernel_rfl) ?_
              refine xm_take 4 (m' := 31) rfl (by kernel_rfl) (by first | exact Sb.refl | exact Sb.nil | (repeat (first | exact Sb.nil | exact Sb.refl | exact Sb.app0 | apply Sb.keep | apply Sb.keepApp | apply Sb.cons | apply Sb.app))) (rd_move rfl) rfl (by kernel_rfl) ?_
              refine xm_take 5 (m' := 63) rfl (by kernel_rfl) (by first | exact Sb.refl | exact Sb.nil | (repeat (first | exact Sb.nil | exact Sb.refl | exact Sb.app0 | apply Sb.keep | apply Sb.keepApp | apply Sb.cons | apply Sb.app))) (rd_eql rfl rfl) rfl (by kernel_rfl) ?_
              refine xm_take 6 (m' := 127) rfl (by kernel_rfl) (by first | exact Sb.refl | exact Sb.nil | (repeat (first | exact Sb.nil | exact Sb.refl | exact Sb.app0 | apply Sb.keep | apply Sb.keepApp | apply Sb.cons | apply Sb.app))) (rd_move rfl) rfl (by kernel_rfl) ?_
              refine xm_dec 60 rfl (fun h2 => (by exfalso; omega)) (fun h2 => ?_)
              refine xm_gtake 7 (m' := 255) rfl (by kernel_rfl) (by first | exact Sb.refl | exact Sb.nil | (repeat (first | exact Sb.nil | exact Sb.refl | exact Sb.app0 | apply Sb.keep | apply Sb.keepApp | apply Sb.cons | apply Sb.app))) rfl rfl (rd_move rfl) rfl (by kernel_rfl) ?_
              refine xm_gtake 8 (m' := 511) rfl (by kernel_rfl) (by first | exact Sb.refl | exact Sb.nil | (repeat (first | exact Sb.nil | exact Sb.refl | exact Sb.app0 | apply Sb.keep | apply Sb.keepApp | apply Sb.cons | apply Sb.app))) rfl rfl (rd_move rfl) rfl (by kernel_rfl) ?_
              refine xm_gtake 9 (m' := 1023) rfl (by kernel_rfl) (by first | exact Sb.refl | exact Sb.nil | (repeat (first | exact Sb.nil | exact Sb.refl | exact Sb.app0 | apply Sb.keep | apply Sb.keepApp | apply Sb.cons | apply Sb.app))) rfl rfl (rd_cast (v' := .slice (some ⟨bb, o, none⟩) i c) (rd_slHi rfl rfl (by omega) (by omega)) rfl) rfl (by kernel_rfl) ?_
              refine xm_gtake 10 (m' := 2047) rfl (by kernel_rfl) (by first | exact Sb.refl | exact Sb.nil | (repeat (first | exact Sb.nil | exact Sb.refl | exact Sb.app0 | apply Sb.keep | apply Sb.keepApp | apply Sb.cons | apply Sb.app))) rfl rfl (rd_move rfl) rfl (by kernel_rfl) ?_
              refine xm_gtake 11 (m' := 4095) rfl (by kernel_rfl) (by first | exact Sb.refl | exact Sb.nil | (repeat (first | exact Sb.nil | exact Sb.refl | exact Sb.app0 | apply Sb.keep | apply Sb.keepApp | apply Sb.cons | apply Sb.app))) rfl rfl (rd_move rfl) rfl (by kernel_rfl) ?_
              refine xm_gtake 12 (m' := 8191) rfl (by kernel_rfl) (by first | exact Sb.refl | exact Sb.nil | (repeat (first | exact Sb.nil | exact Sb.refl | exact Sb.app0 | apply Sb.keep | apply Sb.keepApp | apply Sb.cons | apply Sb.app))) rfl rfl (rd_indexAddr rfl rfl (by omega) (by omega)) rfl (by kernel_rfl) ?_
              refine xm_gtake 13 (m' := 16383) rfl (by kernel_rfl) (by first | exact Sb.refl | exact Sb.nil | (repeat (first | exact Sb.nil | exact Sb.refl | exact Sb.app0 | apply Sb.keep | apply Sb.keepApp | apply Sb.cons | apply Sb.app))) rfl rfl (rd_load1 rfl (hc2 _ (by intro z hz; simp [hz]))) rfl (by kernel_rfl) ?_
              refine xm_gtake 16 (m' := 81919) rfl (by kernel_rfl) (by first | exact Sb.refl | exact Sb.nil | (repeat (first | exact Sb.nil | exact Sb.refl | exact Sb.app0 | apply Sb.keep | apply Sb.keepApp | apply Sb.cons | apply Sb.app))) rfl rfl (rd_move rfl) rfl (by kernel_rfl) ?_
              refine xm_gone 14 (m' := 98303) rfl (by kernel_rfl) rfl rfl rfl (by kernel_rfl) (ef_call rfl (XF.mono (hwt _ (by intro z hz; simp [hz])) ?_))
              rintro v L' ⟨q, kk, lb, rfl, hO2, rfl⟩
              refine xmx_seg [_, _, _] lb _ ?_
              refine ⟨(by first | exact Sb.refl | exact Sb.nil | (repeat (first | exact Sb.nil | exact Sb.refl | exact Sb.app0 | apply Sb.keep | apply Sb.keepApp | apply Sb.cons | apply Sb.app))), ?_⟩
              refine xm_gtake 15 (m' := 131071) rfl (by kernel_rfl) (by first | exact Sb.refl | exact Sb.nil | (repeat (first | exact Sb.nil | exact Sb.refl | exact Sb.app0 | apply Sb.keep | apply Sb.keepApp | apply Sb.cons | apply Sb.app))) rfl rfl (rd_len rfl) rfl (by kernel_rfl) ?_
              refine xm_gtake 17 (m' := 262143) rfl (by kernel_rfl) (by first | exact Sb.refl | exact Sb.nil | (repeat (first | exact Sb.nil | exact Sb.refl | exact Sb.app0 | apply Sb.keep | apply Sb.keepApp | apply Sb.cons | apply Sb.app))) rfl rfl (rd_lss rfl rfl) rfl (by kernel_rfl) ?_
              refine xm_take 18 (m' := 524287) rfl (by kernel_rfl) (by first | exact Sb.refl | exact Sb.nil | (repeat (first | exact Sb.nil | exact Sb.refl | exact Sb.app0 | apply Sb.keep | apply Sb.keepApp | apply Sb.cons | apply Sb.app))) (rd_pickf rfl rfl) rfl (by kernel_rfl) ?_
              refine xm_done (by kernel_rfl) ?_
              refine xq_seq ?_
              refine xc_dec rfl (fun h3 => ?_) (fun h3 => (by exfalso; omega))
              refine xc_seq ?_
              refine xc_region ?_
              refine xo_rd (rd_loadB rfl Kn.o2 (by rfl)) rfl ?_
              refine xo_ef rfl (ef_storeB [_] _ rfl rfl (by first | rfl | assumption) rfl rfl rfl ?_)
              refine xo_rd (rd_assign rfl) rfl ?_
              refine xo_nil ?_
              refine xq_seq ?_
              refine xc_ret ?_
              refine xq_block_ret ?_
              refine xq_then_ret ?_
              refine xq_then_ret ?_
              refine xq_block_ret ?_
              refine xq_then_ret ?_
            exact xq_retB2 (.inl rfl) Tryz.results34 rfl rfl Kn.o1 rfl (List.sublist_append_right [_, _, _] _) ⟨x, lb, rfl, rfl, hx.mono fun z hz => List.mem_append_right _ hz, rfl⟩
          · have hlt : ¬ ((cs.take i).filter fun x => !decide (x = k)).length < i := fun h => hk2 (filter_lt.1 (by rw [hti]; exact h))
            focus
              refine xc_seq ?_
              refine xc_seq ?_
              refine xc_region ?_
              refine xo_rd (rd_move rfl) rfl ?_
              refine xo_rd (rd_move rfl) rfl ?_
              refine xo_rd (rd_len rfl) rfl ?_
              refine xo_rd (rd_lss rfl rfl) rfl ?_
              refine xo_nil ?_
              refine xq_seq ?_
              refine xc_dec rfl (fun h1 => ?_) (fun h1 => (by exfalso; omega))
              refine xc_skip ?_
              refine xq_seq ?_
              refine xc_seq ?_
              refine xc_block ?_
              refine xc_seq ?_
              refine xc_drawML [0, 0, 3, 4, 0, 24, 32, 64, 64, 448, 64, 64, 3136, 4160, 8768, 16448, 64, 98368, 131136] [0, 0, 3, 4, 0, 24, 32, 64, 64, 448, 64, 64, 3136, 4160, 8768, 16448, 64, 98368, 131136] (by kernel_rfl) (by kernel_rfl) (by kernel_rfl) ?_
              refine xm_take 0 (m' := 1) rfl (by kernel_rfl) (by first | exact Sb.refl | exact Sb.nil | (repeat (first | exact Sb.nil | exact Sb.refl | exact Sb.app0 | apply Sb.keep | apply Sb.keepApp | apply Sb.cons | apply Sb.app))) (rd_move rfl) rfl (by kernel_rfl) ?_
              refine xm_take 1 (m' := 3) rfl (by kernel_rfl) (by first | exact Sb.refl | exact Sb.nil | (repeat (first | exact Sb.nil | exact Sb.refl | exact Sb.app0 | apply Sb.keep | apply Sb.keepApp | apply Sb.cons | apply Sb.app))) (rd_move rfl) rfl (by kernel_rfl) ?_
              refine xm_take 2 (m' := 7) rfl (by kernel_rfl) (by first | exact Sb.refl | exact Sb.nil | (repeat (first | exact Sb.nil | exact Sb.refl | exact Sb.app0 | apply Sb.keep | apply Sb.keepApp | apply Sb.cons | apply Sb.app))) (rd_indexAddr rfl rfl (by omega) (by omega)) rfl (by kernel_rfl) ?_
              refine xm_take 3 (m' := 15) rfl (by kernel_rfl) (by first | exact Sb.refl | exact Sb.nil | (repeat (first | exact Sb.nil | exact Sb.refl | exact Sb.app0 | apply Sb.keep | apply Sb.keepApp | apply Sb.cons | apply Sb.app))) (rd_load1 rfl (hc2 _ (by intro z hz; simp [hz]))) rfl (by kernel_rfl) ?_
              refine xm_take 4 (m' := 31) rfl (by kernel_rfl) (by first | exact Sb.refl | exact Sb.nil | (repeat (first | exact Sb.nil | exact Sb.refl | exact Sb.app0 | apply Sb.keep | apply Sb.keepApp | apply Sb.cons | apply Sb.app))) (rd_move rfl) rfl (by kernel_rfl) ?_
              refine xm_take 5 (m' := 63) rfl (by kernel_rfl) (by first | exact Sb.refl | exact Sb.nil | (repeat (first | exact Sb.nil | exact Sb.refl | exact Sb.app0 | apply Sb.keep | apply Sb.keepApp | apply Sb.cons | apply Sb.app))) (rd_eql rfl rfl) rfl (by kernel_rfl) ?_
              refine xm_take 6 (m' := 127) rfl (by kernel_rfl) (by first | exact Sb.refl | exact Sb.nil | (repeat (first | exact Sb.nil | exact Sb.refl | exact Sb.app0 | apply Sb.keep | apply Sb.keepApp | apply Sb.cons | apply Sb.app))) (rd_move rfl) rfl (by kernel_rfl) ?_
              refine xm_dec 60 rfl (fun h2 => (by exfalso; omega)) (fun h2 => ?_)
              refine xm_gtake 7 (m' := 255) rfl (by kernel_rfl) (by first | exact Sb.refl | exact Sb.nil | (repeat (first | exact Sb.nil | exact Sb.refl | exact Sb.app0 | apply Sb.keep | apply Sb.keepApp | apply Sb.cons | apply Sb.app))) rfl rfl (rd_move rfl) rfl (by kernel_rfl) ?_
              refine xm_gtake 8 (m' := 511) rfl (by kernel_rfl) (by first | exact Sb.refl | exact Sb.nil | (repeat (first | exact Sb.nil | exact Sb.refl | exact Sb.app0 | apply Sb.keep | apply Sb.keepApp | apply Sb.cons | apply Sb.app))) rfl rfl (rd_move rfl) rfl (by kernel_rfl) ?_
              refine xm_gtake 9 (m' := 1023) rfl (by kernel_rfl) (by first | exact Sb.refl | exact Sb.nil | (repeat (first | exact Sb.nil | exact Sb.refl | exact Sb.app0 | apply Sb.keep | apply Sb.keepApp | apply Sb.cons | apply Sb.app))) rfl rfl (rd_cast (v' := .slice (some ⟨bb, o, none⟩) i c) (rd_slHi rfl rfl (by omega) (by omega)) rfl) rfl (by kernel_rfl) ?_
              refine xm_gtake 10 (m' := 2047) rfl (by kernel_rfl) (by first | exact Sb.refl | exact Sb.nil | (repeat (first | exact Sb.nil | exact Sb.refl | exact Sb.app0 | apply Sb.keep | apply Sb.keepApp | apply Sb.cons | apply Sb.app))) rfl rfl (rd_move rfl) rfl (by kernel_rfl) ?_
              refine xm_gtake 11 (m' := 4095) rfl (by kernel_rfl) (by first | exact Sb.refl | exact Sb.nil | (repeat (first | exact Sb.nil | exact Sb.refl | exact Sb.app0 | apply Sb.keep | apply Sb.keepApp | apply Sb.cons | apply Sb.app))) rfl rfl (rd_move rfl) rfl (by kernel_rfl) ?_
              refine xm_gtake 12 (m' := 8191) rfl (by kernel_rfl) (by first | exact Sb.refl | exact Sb.nil | (repeat (first | exact Sb.nil | exact Sb.refl | exact Sb.app0 | apply Sb.keep | apply Sb.keepApp | apply Sb.cons | apply Sb.app))) rfl rfl (rd_indexAddr rfl rfl (by omega) (by omega)) rfl (by kernel_rfl) ?_
              refine xm_gtake 13 (m' := 16383) rfl (by kernel_rfl) (by first | exact Sb.refl | exact Sb.nil | (repeat (first | exact Sb.nil | exact Sb.refl | exact Sb.app0 | apply Sb.keep | apply Sb.keepApp | apply Sb.cons | apply Sb.app))) rfl rfl (rd_load1 rfl (hc2 _ (by intro z hz; simp [hz]))) rfl (by kernel_rfl) ?_
              refine xm_gtake 16 (m' := 81919) rfl (by kernel_rfl) (by first | exact Sb.refl | exact Sb.nil | (repeat (first | exact Sb.nil | exact Sb.refl | exact Sb.app0 | apply Sb.keep | apply Sb.keepApp | apply Sb.cons | apply Sb.app))) rfl rfl (rd_move rfl) rfl (by kernel_rfl) ?_
              refine xm_gone 14 (m' := 98303) rfl (by kernel_rfl) rfl rfl rfl (by kernel_rfl) (ef_call rfl (XF.mono (hwt _ (by intro z hz; simp [hz])) ?_))
              rintro v L' ⟨q, kk, lb, rfl, hO2, rfl⟩
              refine xmx_seg [_, _, _] lb _ ?_
              refine ⟨(by first | exact Sb.refl | exact Sb.nil | (repeat (first | exact Sb.nil | exact Sb.refl | exact Sb.app0 | apply Sb.keep | apply Sb.keepApp | apply Sb.cons | apply Sb.app))), ?_⟩
              refine xm_gtake 15 (m' := 131071) rfl (by kernel_rfl) (by first | exact Sb.refl | exact Sb.nil | (repeat (first | exact Sb.nil | exact Sb.refl | exact Sb.app0 | apply Sb.keep | apply Sb.keepApp | apply Sb.cons | apply Sb.app))) rfl rfl (rd_len rfl) rfl (by kernel_rfl) ?_
              refine xm_gtake 17 (m' := 262143) rfl (by kernel_rfl) (by first | exact Sb.refl | exact Sb.nil | (repeat (first | exact Sb.nil | exact Sb.refl | exact Sb.app0 | apply Sb.keep | apply Sb.keepApp | apply Sb.cons | apply Sb.app))) rfl rfl (rd_lss rfl rfl) rfl (by kernel_rfl) ?_
              refine xm_take 18 (m' := 524287) rfl (by kernel_rfl) (by first | exact Sb.refl | exact Sb.nil | (repeat (first | exact Sb.nil | exact Sb.refl | exact Sb.app0 | apply Sb.keep | apply Sb.keepApp | apply Sb.cons | apply Sb.app))) (rd_pickf rfl rfl) rfl (by kernel_rfl) ?_
              refine xm_done (by kernel_rfl) ?_
              refine xq_seq ?_
              refine xc_dec rfl (fun h3 => (by exfalso; omega)) (fun h3 => ?_)
              refine xc_skip ?_
              refine xq_block ?_
              refine xq_seq ?_
              refine xc_region ?_
              refine xo_rd (rd_move rfl) rfl ?_
              refine xo_rd (rd_addn rfl rfl (by omega) (by omega)) rfl ?_
              refine xo_rd (rd_assign rfl) rfl ?_
              refine xo_nil ?_
            refine xq_roundK rfl (i + 1) ⟨by omega, fun j hj => ?_⟩ (by omega) ((List.sublist_append_right lb L).append_left [_, _, _]) (by repeat (first | exact keep_nil | refine keep_cons rfl ?_))
            by_cases hji : j = i
            · subst hji; rw [hgd]; exact fun h => h.elim hk1 hk2
            · exact hno j (by omega)
      · have hE : sbE x.ra id cs = 0 := by
          rw [hsb, if_neg]
          rw [dupI_def, List.any_eq_true]
          rintro ⟨j, hj, he⟩
          exact hno j (by have := List.mem_range.1 hj; omega) (by simpa using he)
        have hJ : sbA x.ra id ct cs = { x.ra with ws := setW x.ra.ws ⟨id, ct, cs⟩ } := by unfold sbA; rw [if_pos hE]
        rw [hE, hJ]
        focus
          refine xc_seq ?_
          refine xc_seq ?_
          refine xc_region ?_
          refine xo_rd (rd_move rfl) rfl ?_
          refine xo_rd (rd_move rfl) rfl ?_
          refine xo_rd (rd_len rfl) rfl ?_
          refine xo_rd (rd_lss rfl rfl) rfl ?_
          refine xo_nil ?_
          refine xq_seq ?_
          refine xc_dec rfl (fun h1 => (by exfalso; omega)) (fun h1 => ?_)
          refine xc_exit ?_
          refine xq_then_exit ?_
          refine xq_then_exit ?_
          refine xq_block_hit ?_
          refine xq_seq ?_
          refine xc_seq ?_
          refine xc_region ?_
          refine xo_rd (rd_assign rfl) rfl ?_
          refine xo_nil ?_
          refine xq_seq ?_
          refine xc_seq ?_
          refine xc_seq ?_
          refine xc_region ?_
          refine xo_rd (rd_assign rfl) rfl ?_
          refine xo_nil ?_
          refine xq_seq ?_
          refine xc_block ?_
        refine xc_loopI (ι := SuS) (fun s => s.i ≤ x.ws.length ∧ s.ws.length = s.i ∧ s.ws.map Wx.a = setW ((x.ws.take s.i).map Wx.a) ⟨id, ct, cs⟩ ∧ SlQ 3 105 (.slice s.p s.ws.length s.c) s.ws.length (s.ws.flatMap Wx.enc) s.l ∧ (∀ u, u ∈ s.ws → Rs W (s.g ++ L0) u.p (ints .i64 u.a.cs) ∧ u.a.cs.length ≤ 1000)) (fun s => x.ws.length - s.i) (fun s => (r10, Obj.cells ((wxF x.ws id).getD wx0).enc.toArray 105 (0, 0)) :: (r8, Obj.cells (rrE (roE 0 none 0 0) (rfE 0 0 none 0 0 false 0 0 0 0 false none 0 0 none 0 0) none 0 0).toArray 45 (0, 0)) :: (r4, Obj.cells x.enc.toArray 45 (0, 0)) :: (s.l ++ (s.g ++ L))) (fun s => [(1, .int .i64 id), (2, .bool ct), (3, .slice p n c), (4, .pointer (some ⟨r4, 0, none⟩)), (8, .pointer (some ⟨r8, 0, none⟩)), (16, .slice s.p s.ws.length s.c), (17, .int .i64 s.i)]) ⟨0, [], none, 0, [], []⟩ ⟨Nat.zero_le _, rfl, rfl, SlQ.nil, fun u hu => by cases hu⟩ rfl (by repeat (first | exact keep_nil | refine keep_cons rfl ?_)) ?_
        rintro ⟨i, ws', xp1, xc1, xl1, gb⟩ ⟨hi, hwl, hwm, hO, hcs⟩
        dsimp only at hi hwl hwm hO hcs ⊢
        by_cases hin : i < x.ws.length
        · obtain ⟨b, o, hp, hc⟩ := hx.xs.rows Wx.len (by decide) (by omega)
          have hci := hc i hin
          obtain ⟨e, hee⟩ : ∃ e, x.ws[i] = e := ⟨_, rfl⟩
          rw [hee] at hci
          have hem : e ∈ x.ws := hee ▸ List.getElem_mem hin
          have hci2 : ∀ L', (∀ z, z ∈ L → z ∈ L') → ∀ j u, e.enc[j]? = some u → Cl W L' b (o + (i : Int).toNat * 3 + j) u := fun L' h j u hj => (hci j u hj).mono fun z hz => h z (hs z hz)
          have htk : x.ws.take (i + 1) = x.ws.take i ++ [e] := by rw [List.take_add_one, List.getElem?_eq_getElem hin, hee]; rfl
          have hset : ∀ u : Wx, (if e.a.id = id then (⟨id, ct, cs⟩ : Wa) else e.a) = u.a → (ws' ++ [u]).map Wx.a = setW ((x.ws.take (i + 1)).map Wx.a) ⟨id, ct, cs⟩ := fun u hu => by
            rw [htk, List.map_append, hwm, List.map_append]
            unfold setW
            rw [List.map_append]
            congr 1
            show [u.a] = [if e.a.id = id then (⟨id, ct, cs⟩ : Wa) else e.a]
            rw [hu]
          by_cases hid : e.a.id = id
          · have hu := hset ⟨⟨id, ct, cs⟩, none, 0⟩ (by rw [if_pos hid])
            have hrs := fun L' (h : ∀ z, z ∈ L → z ∈ L') => hrL.mono h
            focus
              refine xc_seq ?_
              refine xc_seq ?_
              refine xc_region ?_
              refine xo_rd (rd_move rfl) rfl ?_
              refine xo_rd (rd_fieldAddr rfl) rfl ?_
              refine xo_rd (rd_cast (v' := .slice (some ⟨b, o, none⟩) x.ws.length x.xc) (rd_load1 rfl (Cl.own (i := 13) (List.mem_cons_of_mem _ (List.mem_cons_of_mem _ List.mem_cons_self)) rfl)) (by rw [← hp]; rfl)) rfl ?_
              refine xo_rd (rd_len rfl) rfl ?_
              refine xo_rd (rd_lss rfl rfl) rfl ?_
              refine xo_nil ?_
              refine xq_seq ?_
              refine xc_dec rfl (fun h1 => ?_) (fun h1 => (by exfalso; omega))
              refine xc_skip ?_
              refine xq_seq ?_
              refine xc_seq ?_
              refine xc_block ?_
              refine xc_seq ?_
              refine xc_region ?_
              refine xo_rd (rd_fieldAddr rfl) rfl ?_
              refine xo_rd (rd_cast (v' := .slice (some ⟨b, o, none⟩) x.ws.length x.xc) (rd_load1 rfl (Cl.own (i := 13) (List.mem_cons_of_mem _ (List.mem_cons_of_mem _ List.mem_cons_self)) rfl)) (by rw [← hp]; rfl)) rfl ?_
              refine xo_rd (rd_move rfl) rfl ?_
              refine xo_rd (rd_indexAddr rfl rfl (by omega) (by omega)) rfl ?_
              refine xo_rd (rd_loadA (vs := e.enc) rfl rfl (hci2 _ (by intro z hz; simp [hz]))) rfl ?_
              refine xo_ef rfl (ef_alloc fun r18 => ?_)
              refine xo_ef rfl (ef_storeB [] _ rfl rfl (by first | rfl | assumption) rfl rfl rfl ?_)
              refine xo_nil ?_
              refine xq_seq ?_
              refine xc_seq ?_
              refine xc_seq ?_
              refine xc_region ?_
              refine xo_rd (rd_fieldAddr rfl) rfl ?_
              refine xo_rd (rd_load1 rfl (Cl.o0 rfl)) rfl ?_
              refine xo_rd (rd_move rfl) rfl ?_
              refine xo_rd (rd_eql rfl rfl) rfl ?_
              refine xo_nil ?_
              refine xq_seq ?_
              refine xc_dec rfl (fun h2 => ?_) (fun h2 => (by exfalso; omega))
              refine xc_seq ?_
              refine xc_region ?_
              refine xo_rd (rd_assign rfl) rfl ?_
              refine xo_nil ?_
              refine xq_seq ?_
              refine xc_region ?_
              refine xo_rd (rd_move rfl) rfl ?_
              refine xo_rd (rd_move rfl) rfl ?_
              refine xo_rd (rd_move rfl) rfl ?_
              refine xo_rd (rd_move rfl) rfl ?_
              refine xo_ef rfl (ef_appendQS [_, _, _, _] (xl1 ++ (gb ++ L)) [] (news := ints .i64 cs) rfl rfl SlQ.nil rfl (hrs _ (by intro z hz; simp [hz])) (by simp [ints, hn]) (ints_one _ _) (by decide) (by omega) (by omega) fun q kk lb hO2 hk2 => ?_)
              refine xo_rd (rd_cast (v' := .agg (Wx.enc ⟨⟨id, ct, cs⟩, q, kk⟩).toArray) (rd_build (T := 105) rfl rfl rfl) (by simp only [Wx.enc, xwE, Nat.zero_add, hn]; rfl)) rfl ?_
              refine xo_ef rfl (ef_storeB [] _ rfl rfl (by first | rfl | assumption) rfl rfl rfl ?_)
              refine xo_nil ?_
              refine xq_seq ?_
              refine xc_region ?_
              refine xo_rd (rd_move rfl) rfl ?_
              refine xo_rd (rd_loadB rfl Kn.o0 (by rfl)) rfl ?_
              refine xo_ef rfl (ef_sliceA (vs := Wx.enc ⟨⟨id, ct, cs⟩, q, kk⟩) rfl rfl (by rw [Wx.len]; decide) (by rw [Wx.len]; decide) fun r98 => ?_)
              refine xo_ef rfl (ef_appendQS (_ :: _ :: _ :: _ :: _ :: lb) (gb ++ L) xl1 (news := Wx.enc ⟨⟨id, ct, cs⟩, q, kk⟩) rfl rfl hO rfl (Rs.fresh (List.Mem.head _)) rfl rfl (by decide) (by omega) (by omega) fun xp2 xc2 xl2 hO3 hk3 => ?_)
              refine xo_rd (rd_assign rfl) rfl ?_
              refine xo_nil ?_
              refine xq_block ?_
              refine xq_seq ?_
              refine xc_region ?_
              refine xo_rd (rd_move rfl) rfl ?_
              refine xo_rd (rd_addn rfl rfl (by omega) (by omega)) rfl ?_
              refine xo_rd (rd_assign rfl) rfl ?_
              refine xo_nil ?_
            refine xq_sub (List.sublist_append_right [_, _] _) (xq_perm (((seg_perm lb xl2 (gb ++ L)).trans (List.Perm.of_eq (by rw [List.append_assoc lb gb]))).cons _ |>.cons _ |>.cons _) (xq_roundI (⟨i + 1, ws' ++ [⟨⟨id, ct, cs⟩, q, kk⟩], xp2, xc2, xl2, lb ++ gb⟩ : SuS) ⟨by dsimp only; omega, by dsimp only; rw [List.length_append, hwl]; rfl, hset ⟨⟨id, ct, cs⟩, q, kk⟩ (by rw [if_pos hid]), by dsimp only; rw [List.length_append, List.flatMap_append, List.flatMap_singleton]; exact hO3, fun u hu => ?_⟩ (by dsimp only; omega) rfl (by dsimp only; rw [List.length_append]; exact (by repeat (first | exact keep_nil | refine keep_cons rfl ?_)))))
            rcases List.mem_append.1 hu with h | h
            · exact ⟨(hcs u h).1.mono (by intro z hz; simp [hz]), (hcs u h).2⟩
            · obtain rfl := List.mem_singleton.1 h
              exact ⟨hO2.rs (by intro z hz; simp [hz]), by dsimp only; omega⟩
          · skip
            focus
              refine xc_seq ?_
              refine xc_seq ?_
              refine xc_region ?_
              refine xo_rd (rd_move rfl) rfl ?_
              refine xo_rd (rd_fieldAddr rfl) rfl ?_
              refine xo_rd (rd_cast (v' := .slice (some ⟨b, o, none⟩) x.ws.length x.xc) (rd_load1 rfl (Cl.own (i := 13) (List.mem_cons_of_mem _ (List.mem_cons_of_mem _ List.mem_cons_self)) rfl)) (by rw [← hp]; rfl)) rfl ?_
              refine xo_rd (rd_len rfl) rfl ?_
              refine xo_rd (rd_lss rfl rfl) rfl ?_
              refine xo_nil ?_
              refine xq_seq ?_
              refine xc_dec rfl (fun h1 => ?_) (fun h1 => (by exfalso; omega))
              refine xc_skip ?_
              refine xq_seq ?_
              refine xc_seq ?_
              refine xc_block ?_
              refine xc_seq ?_
              refine xc_region ?_
              refine xo_rd (rd_fieldAddr rfl) rfl ?_
              refine xo_rd (rd_cast (v' := .slice (some ⟨b, o, none⟩) x.ws.length x.xc) (rd_load1 rfl (Cl.own (i := 13) (List.mem_cons_of_mem _ (List.mem_cons_of_mem _ List.mem_cons_self)) rfl)) (by rw [← hp]; rfl)) rfl ?_
              refine xo_rd (rd_move rfl) rfl ?_
              refine xo_rd (rd_indexAddr rfl rfl (by omega) (by omega)) rfl ?_
              refine xo_rd (rd_loadA (vs := e.enc) rfl rfl (hci2 _ (by intro z hz; simp [hz]))) rfl ?_
              refine xo_ef rfl (ef_alloc fun r18 => ?_)
              refine xo_ef rfl (ef_storeB [] _ rfl rfl (by first | rfl | assumption) rfl rfl rfl ?_)
              refine xo_nil ?_
              refine xq_seq ?_
              refine xc_seq ?_
              refine xc_seq ?_
              refine xc_region ?_
              refine xo_rd (rd_fieldAddr rfl) rfl ?_
              refine xo_rd (rd_load1 rfl (Cl.o0 rfl)) rfl ?_
              refine xo_rd (rd_move rfl) rfl ?_
              refine xo_rd (rd_eql rfl rfl) rfl ?_
              refine xo_nil ?_
              refine xq_seq ?_
              refine xc_dec rfl (fun h2 => (by exfalso; omega)) (fun h2 => ?_)
              refine xc_skip ?_
              refine xq_seq ?_
              refine xc_region ?_
              refine xo_rd (rd_move rfl) rfl ?_
              refine xo_rd (rd_loadB rfl Kn.o0 (by rfl)) rfl ?_
              refine xo_ef rfl (ef_sliceA (vs := e.enc) rfl rfl (by rw [Wx.len]; decide) (by rw [Wx.len]; decide) fun r98 => ?_)
              refine xo_ef rfl (ef_appendQS [_, _, _, _, _] (gb ++ L) xl1 (news := e.enc) rfl rfl hO rfl (Rs.fresh (List.Mem.head _)) rfl rfl (by decide) (by omega) (by omega) fun xp2 xc2 xl2 hO3 hk3 => ?_)
              refine xo_rd (rd_assign rfl) rfl ?_
              refine xo_nil ?_
              refine xq_block ?_
              refine xq_seq ?_
              refine xc_region ?_
              refine xo_rd (rd_move rfl) rfl ?_
              refine xo_rd (rd_addn rfl rfl (by omega) (by omega)) rfl ?_
              refine xo_rd (rd_assign rfl) rfl ?_
              refine xo_nil ?_
            refine xq_sub (List.sublist_append_right [_, _] _) (xq_roundI (⟨i + 1, ws' ++ [e], xp2, xc2, xl2, gb⟩ : SuS) ⟨by dsimp only; omega, by dsimp only; rw [List.length_append, hwl]; rfl, hset e (by rw [if_neg hid]), by dsimp only; rw [List.length_append, List.flatMap_append, List.flatMap_singleton]; exact hO3, fun u hu => ?_⟩ (by dsimp only; omega) rfl (by dsimp only; rw [List.length_append]; exact (by repeat (first | exact keep_nil | refine keep_cons rfl ?_))))
            rcases List.mem_append.1 hu with h | h
            · exact hcs u h
            · obtain rfl := List.mem_singleton.1 h
              exact ⟨(hx.w u hem).mono fun z hz => List.mem_append_right _ hz, hx.cl u hem⟩
        · rw [List.take_of_length_le (by omega)] at hwm
          focus
            refine xc_seq ?_
            refine xc_seq ?_
            refine xc_region ?_
            refine xo_rd (rd_move rfl) rfl ?_
            refine xo_rd (rd_fieldAddr rfl) rfl ?_
            refine xo_rd (rd_load1 rfl (Cl.o2 rfl)) rfl ?_
            refine xo_rd (rd_len rfl) rfl ?_
            refine xo_rd (rd_lss rfl rfl) rfl ?_
            refine xo_nil ?_
            refine xq_seq ?_
            refine xc_dec rfl (fun h1 => (by exfalso; omega)) (fun h1 => ?_)
            refine xc_exit ?_
            refine xq_then_exit ?_
            refine xq_then_exit ?_
            refine xq_block_hit ?_
            refine xq_seq ?_
            refine xc_seq ?_
            refine xc_region ?_
            refine xo_rd (rd_move rfl) rfl ?_
            refine xo_rd (rd_fieldAddr rfl) rfl ?_
            refine xo_ef rfl (ef_store1 [_, _] _ rfl rfl (by first | rfl | assumption) rfl rfl rfl ?_)
            refine xo_nil ?_
            refine xq_seq ?_
            refine xc_seq ?_
            refine xc_region ?_
            refine xo_rd (rd_loadB rfl Kn.o2 (by rfl)) rfl ?_
            refine xo_ef rfl (ef_storeB [_] _ rfl rfl (by first | rfl | assumption) rfl rfl rfl ?_)
            refine xo_rd (rd_assign rfl) rfl ?_
            refine xo_nil ?_
            refine xq_seq ?_
            refine xc_ret ?_
          exact xq_retB2 (.inl rfl) Tryz.results34 rfl rfl Kn.o1 rfl (List.sublist_append_right [_, _, _] _) ⟨⟨x.most, x.ms, x.rp, x.rc, x.f, ws', xp1, xc1⟩, xl1 ++ gb, rfl, by simp only [Rr.ra, hwm], ⟨hx.r.mono (by intro z hz; simp [hz]), hx.f.mono (by intro z hz; simp [hz]), hO.rs (by intro z hz; simp [hz]), fun u hu => (hcs u hu).1.mono (by intro z hz; simp [hz]), hx.ml, by dsimp only; omega, fun u hu => (hcs u hu).2⟩, by simp only [List.append_assoc]; rfl⟩
end Go.Proofs.YtmdeajdaeihniaaGreat.X
/-
  Chapter 25: the reference's room: new ones, its audience, and who views: walks of my own.
-/
namespace Go.Proofs.YtmdeajdaeihniaaGreat.X
open Go Go.RowKit
set_option linter.unusedVariables false
set_option linter.unusedSimpArgs false
def newRr (m q s : Int) : Rr := ⟨m, [], none, 0, newRf q s, [], none, 0⟩
theorem newRr_at {W : World} (m q s : Int) : (newRr m q s).At W [] := ⟨Rs.nil, newRf_at q s, Rs.nil, (fun u hu => by cases hu), Nat.zero_le _, Nat.zero_le _, (fun u hu => by cases hu)⟩
theorem xf_r2New {W : World} {L : List Blk} (m q s : Int) (hm : 0 ≤ m ∧ m ≤ 32) (hq : 0 ≤ q ∧ q ≤ 32) (hs : 1 ≤ s) : XF Tryz.prog W 8 #[.int .i64 m, .int .i64 q, .int .u64 s] L (fun v L' => v = .tuple #[.agg (newRr m q s).enc.toArray, .int .i64 0] ∧ L' = L) := by
  refine xf_enter (args := [_, _, _]) Tryz.func8 rfl Tryz.ntmps8 rfl ?_
  have h1 := fun L' => xf_rnew (W := W) (L := L') m hm
  have h2 := fun L' => xf_rNew (W := W) (L := L') q s hq hs
  focus
    refine xc_seq ?_
    refine xc_region ?_
    refine xo_ef rfl (ef_alloc fun r6 => ?_)
    refine xo_rd (rd_assign rfl) rfl ?_
    refine xo_nil ?_
    refine xq_seq ?_
    refine xc_seq ?_
    refine xc_region ?_
    refine xo_rd (rd_move rfl) rfl ?_
    refine xo_ef rfl (ef_call rfl (XF.mono (h1 _) ?_))
    rintro v L' ⟨rfl, rfl⟩
    refine xo_rd (rd_move rfl) rfl ?_
    refine xo_rd (rd_extract rfl rfl) rfl ?_
    refine xo_rd (rd_extract rfl rfl) rfl ?_
    refine xo_ef rfl (ef_alloc fun r8 => ?_)
    refine xo_ef rfl (ef_storeB [] _ rfl rfl (by first | rfl | assumption) rfl rfl rfl ?_)
    refine xo_rd (rd_assign rfl) rfl ?_
    refine xo_nil ?_
    refine xq_seq ?_
    refine xc_seq ?_
    refine xc_region ?_
    refine xo_rd (rd_move rfl) rfl ?_
    refine xo_rd (rd_move rfl) rfl ?_
    refine xo_ef rfl (ef_call rfl (XF.mono (h2 _) ?_))
    rintro v L' ⟨rfl, rfl⟩
    refine xo_rd (rd_move rfl) rfl ?_
    refine xo_rd (rd_extract rfl rfl) rfl ?_
    refine xo_rd (rd_extract rfl rfl) rfl ?_
    refine xo_ef rfl (ef_alloc fun r10 => ?_)
    refine xo_ef rfl (ef_storeB [] _ rfl rfl (by first | rfl | assumption) rfl rfl rfl ?_)
    refine xo_rd (rd_assign rfl) rfl ?_
    refine xo_nil ?_
    refine xq_seq ?_
    refine xc_seq ?_
    refine xc_seq ?_
    refine xc_region ?_
    refine xo_rd (rd_move rfl) rfl ?_
    refine xo_rd (rd_neq rfl rfl) rfl ?_
    refine xo_rd (rd_move rfl) rfl ?_
    refine xo_grd rfl rfl (rd_move rfl) rfl ?_
    refine xo_grd rfl rfl (rd_neq rfl rfl) rfl ?_
    refine xo_rd (rd_pickf rfl rfl) rfl ?_
    refine xo_nil ?_
    refine xq_seq ?_
    refine xc_condf rfl ?_
    refine xc_skip ?_
    refine xq_seq ?_
    refine xc_seq ?_
    refine xc_region ?_
    refine xo_rd (rd_loadB rfl Kn.o1 (by rfl)) rfl ?_
    refine xo_rd (rd_loadB rfl Kn.o0 (by rfl)) rfl ?_
    refine xo_rd (rd_cast (v' := .agg (newRr m q s).enc.toArray) (rd_build (T := 45) rfl rfl rfl) (by kernel_rfl)) rfl ?_
    refine xo_ef rfl (ef_storeB [_, _] _ rfl rfl (by first | rfl | assumption) rfl rfl rfl ?_)
    refine xo_rd (rd_assign rfl) rfl ?_
    refine xo_nil ?_
    refine xq_seq ?_
    refine xc_ret ?_
  exact xq_retB2 (.inl rfl) Tryz.results8 rfl rfl Kn.o2 rfl (List.sublist_append_right [_, _, _] _) ⟨rfl, rfl⟩
theorem xf_r2NewE {W : World} {L : List Blk} (m q s : Int) (h0 : 0 ≤ s) (h : ¬ ((0 ≤ m ∧ m ≤ 32) ∧ (0 ≤ q ∧ q ≤ 32) ∧ 1 ≤ s)) : XF Tryz.prog W 8 #[.int .i64 m, .int .i64 q, .int .u64 s] L (fun v L' => ∃ ws : List Value, v = .tuple #[.agg ws.toArray, .int .i64 2] ∧ ws.length = 14 ∧ ws.all (·.oneCell') = true ∧ L' = L) := by
  refine xf_enter (args := [_, _, _]) Tryz.func8 rfl Tryz.ntmps8 rfl ?_
  by_cases hm : 0 ≤ m ∧ m ≤ 32
  · have hb : q < 0 ∨ 32 < q ∨ s = 0 := by omega
    have h1 := fun L' => xf_rnew (W := W) (L := L') m hm
    have h2 := fun L' => xf_rNewE (W := W) (L := L') q s hb
    focus
      refine xc_seq ?_
      refine xc_region ?_
      refine xo_ef rfl (ef_alloc fun r6 => ?_)
      refine xo_rd (rd_assign rfl) rfl ?_
      refine xo_nil ?_
      refine xq_seq ?_
      refine xc_seq ?_
      refine xc_region ?_
      refine xo_rd (rd_move rfl) rfl ?_
      refine xo_ef rfl (ef_call rfl (XF.mono (h1 _) ?_))
      rintro v L' ⟨rfl, rfl⟩
      refine xo_rd (rd_move rfl) rfl ?_
      refine xo_rd (rd_extract rfl rfl) rfl ?_
      refine xo_rd (rd_extract rfl rfl) rfl ?_
      refine xo_ef rfl (ef_alloc fun r8 => ?_)
      refine xo_ef rfl (ef_storeB [] _ rfl rfl (by first | rfl | assumption) rfl rfl rfl ?_)
      refine xo_rd (rd_assign rfl) rfl ?_
      refine xo_nil ?_
      refine xq_seq ?_
      refine xc_seq ?_
      refine xc_region ?_
      refine xo_rd (rd_move rfl) rfl ?_
      refine xo_rd (rd_move rfl) rfl ?_
      refine xo_ef rfl (ef_call rfl (XF.mono (h2 _) ?_))
      rintro v L' ⟨rfl, rfl⟩
      refine xo_rd (rd_move rfl) rfl ?_
      refine xo_rd (rd_extract rfl rfl) rfl ?_
      refine xo_rd (rd_extract rfl rfl) rfl ?_
      refine xo_ef rfl (ef_alloc fun r10 => ?_)
      refine xo_ef rfl (ef_storeB [] _ rfl rfl (by first | rfl | assumption) rfl rfl rfl ?_)
      refine xo_rd (rd_assign rfl) rfl ?_
      refine xo_nil ?_
      refine xq_seq ?_
      refine xc_seq ?_
      refine xc_seq ?_
      refine xc_region ?_
      refine xo_rd (rd_move rfl) rfl ?_
      refine xo_rd (rd_neq rfl rfl) rfl ?_
      refine xo_rd (rd_move rfl) rfl ?_
      refine xo_grd rfl rfl (rd_move rfl) rfl ?_
      refine xo_grd rfl rfl (rd_neq rfl rfl) rfl ?_
      refine xo_rd (rd_pickf rfl rfl) rfl ?_
      refine xo_nil ?_
      refine xq_seq ?_
      refine xc_condt rfl ?_
      refine xc_seq ?_
      refine xc_region ?_
      refine xo_rd (rd_build rfl rfl rfl) rfl ?_
      refine xo_ef rfl (ef_storeB [_, _] _ rfl rfl (by first | rfl | assumption) rfl rfl rfl ?_)
      refine xo_rd (rd_assign rfl) rfl ?_
      refine xo_nil ?_
      refine xq_seq ?_
      refine xc_ret ?_
      refine xq_then_ret ?_
    exact xq_retB2 (.inl rfl) Tryz.results8 rfl rfl Kn.o2 rfl (List.sublist_append_right [_, _, _] _) ⟨_, rfl, rfl, rfl, rfl⟩
  · have h1 := fun L' => xf_rnew_bad (W := W) (L := L') m (by omega)
    by_cases hq : (0 ≤ q ∧ q ≤ 32) ∧ 1 ≤ s
    · have h2 := fun L' => xf_rNew (W := W) (L := L') q s hq.1 hq.2
      focus
        refine xc_seq ?_
        refine xc_region ?_
        refine xo_ef rfl (ef_alloc fun r6 => ?_)
        refine xo_rd (rd_assign rfl) rfl ?_
        refine xo_nil ?_
        refine xq_seq ?_
        refine xc_seq ?_
        refine xc_region ?_
        refine xo_rd (rd_move rfl) rfl ?_
        refine xo_ef rfl (ef_call rfl (XF.mono (h1 _) ?_))
        rintro v L' ⟨rfl, rfl⟩
        refine xo_rd (rd_move rfl) rfl ?_
        refine xo_rd (rd_extract rfl rfl) rfl ?_
        refine xo_rd (rd_extract rfl rfl) rfl ?_
        refine xo_ef rfl (ef_alloc fun r8 => ?_)
        refine xo_ef rfl (ef_storeB [] _ rfl rfl (by first | rfl | assumption) rfl rfl rfl ?_)
        refine xo_rd (rd_assign rfl) rfl ?_
        refine xo_nil ?_
        refine xq_seq ?_
        refine xc_seq ?_
        refine xc_region ?_
        refine xo_rd (rd_move rfl) rfl ?_
        refine xo_rd (rd_move rfl) rfl ?_
        refine xo_ef rfl (ef_call rfl (XF.mono (h2 _) ?_))
        rintro v L' ⟨rfl, rfl⟩
        refine xo_rd (rd_move rfl) rfl ?_
        refine xo_rd (rd_extract rfl rfl) rfl ?_
        refine xo_rd (rd_extract rfl rfl) rfl ?_
        refine xo_ef rfl (ef_alloc fun r10 => ?_)
        refine xo_ef rfl (ef_storeB [] _ rfl rfl (by first | rfl | assumption) rfl rfl rfl ?_)
        refine xo_rd (rd_assign rfl) rfl ?_
        refine xo_nil ?_
        refine xq_seq ?_
        refine xc_seq ?_
        refine xc_seq ?_
        refine xc_region ?_
        refine xo_rd (rd_move rfl) rfl ?_
        refine xo_rd (rd_neq rfl rfl) rfl ?_
        refine xo_rd (rd_move rfl) rfl ?_
        refine xo_gskip rfl rfl rfl rfl ?_
        refine xo_gskip rfl rfl rfl rfl ?_
        refine xo_rd (rd_pickt rfl rfl) rfl ?_
        refine xo_nil ?_
        refine xq_seq ?_
        refine xc_condt rfl ?_
        refine xc_seq ?_
        refine xc_region ?_
        refine xo_rd (rd_build rfl rfl rfl) rfl ?_
        refine xo_ef rfl (ef_storeB [_, _] _ rfl rfl (by first | rfl | assumption) rfl rfl rfl ?_)
        refine xo_rd (rd_assign rfl) rfl ?_
        refine xo_nil ?_
        refine xq_seq ?_
        refine xc_ret ?_
        refine xq_then_ret ?_
      exact xq_retB2 (.inl rfl) Tryz.results8 rfl rfl Kn.o2 rfl (List.sublist_append_right [_, _, _] _) ⟨_, rfl, rfl, rfl, rfl⟩
    · have h2 := fun L' => xf_rNewE (W := W) (L := L') q s (by omega)
      focus
        refine xc_seq ?_
        refine xc_region ?_
        refine xo_ef rfl (ef_alloc fun r6 => ?_)
        refine xo_rd (rd_assign rfl) rfl ?_
        refine xo_nil ?_
        refine xq_seq ?_
        refine xc_seq ?_
        refine xc_region ?_
        refine xo_rd (rd_move rfl) rfl ?_
        refine xo_ef rfl (ef_call rfl (XF.mono (h1 _) ?_))
        rintro v L' ⟨rfl, rfl⟩
        refine xo_rd (rd_move rfl) rfl ?_
        refine xo_rd (rd_extract rfl rfl) rfl ?_
        refine xo_rd (rd_extract rfl rfl) rfl ?_
        refine xo_ef rfl (ef_alloc fun r8 => ?_)
        refine xo_ef rfl (ef_storeB [] _ rfl rfl (by first | rfl | assumption) rfl rfl rfl ?_)
        refine xo_rd (rd_assign rfl) rfl ?_
        refine xo_nil ?_
        refine xq_seq ?_
        refine xc_seq ?_
        refine xc_region ?_
        refine xo_rd (rd_move rfl) rfl ?_
        refine xo_rd (rd_move rfl) rfl ?_
        refine xo_ef rfl (ef_call rfl (XF.mono (h2 _) ?_))
        rintro v L' ⟨rfl, rfl⟩
        refine xo_rd (rd_move rfl) rfl ?_
        refine xo_rd (rd_extract rfl rfl) rfl ?_
        refine xo_rd (rd_extract rfl rfl) rfl ?_
        refine xo_ef rfl (ef_alloc fun r10 => ?_)
        refine xo_ef rfl (ef_storeB [] _ rfl rfl (by first | rfl | assumption) rfl rfl rfl ?_)
        refine xo_rd (rd_assign rfl) rfl ?_
        refine xo_nil ?_
        refine xq_seq ?_
        refine xc_seq ?_
        refine xc_seq ?_
        refine xc_region ?_
        refine xo_rd (rd_move rfl) rfl ?_
        refine xo_rd (rd_neq rfl rfl) rfl ?_
        refine xo_rd (rd_move rfl) rfl ?_
        refine xo_gskip rfl rfl rfl rfl ?_
        refine xo_gskip rfl rfl rfl rfl ?_
        refine xo_rd (rd_pickt rfl rfl) rfl ?_
        refine xo_nil ?_
        refine xq_seq ?_
        refine xc_condt rfl ?_
        refine xc_seq ?_
        refine xc_region ?_
        refine xo_rd (rd_build rfl rfl rfl) rfl ?_
        refine xo_ef rfl (ef_storeB [_, _] _ rfl rfl (by first | rfl | assumption) rfl rfl rfl ?_)
        refine xo_rd (rd_assign rfl) rfl ?_
        refine xo_nil ?_
        refine xq_seq ?_
        refine xc_ret ?_
        refine xq_then_ret ?_
      exact xq_retB2 (.inl rfl) Tryz.results8 rfl rfl Kn.o2 rfl (List.sublist_append_right [_, _, _] _) ⟨_, rfl, rfl, rfl, rfl⟩
def audL (ws : List Wa) (he : Bool) (who : Int) : List Int := (ws.filter fun w => w.ct && !(he && decide (who = w.id))).map Wa.id
theorem audL_snoc (ws : List Wa) (w : Wa) (he : Bool) (who : Int) : audL (ws ++ [w]) he who = audL ws he who ++ if (w.ct && !(he && decide (who = w.id))) = true then [w.id] else [] := by
  unfold audL
  rw [List.filter_append, List.map_append]
  congr 1
  by_cases h : (w.ct && !(he && decide (who = w.id))) = true
  · rw [if_pos h, List.filter_cons, if_pos h]; rfl
  · rw [if_neg h, List.filter_cons, if_neg h]; rfl
theorem audL_le (ws : List Wa) (he : Bool) (who : Int) : (audL ws he who).length ≤ ws.length := by
  unfold audL; rw [List.length_map]; exact List.length_filter_le _ _
set_option maxHeartbeats 800000 in
theorem xf_r2Audience {W : World} {L : List Blk} (x : Rr) (hx : x.At W L) (hw : 0 ≤ x.f.a.who ∧ x.f.a.who ≤ 4294967295) : XF Tryz.prog W 52 #[.agg x.enc.toArray] L (fun v L' => ∃ q kk lb, v = .slice q (audL x.ra.ws x.f.a.held x.f.a.who).length kk ∧ SlQ 1 3 (.slice q (audL x.ra.ws x.f.a.held x.f.a.who).length kk) (audL x.ra.ws x.f.a.held x.f.a.who).length (ints .i64 (audL x.ra.ws x.f.a.held x.f.a.who)) lb ∧ L' = lb ++ L) := by
  have hxl := hx.xl
  refine xf_enter (args := [_]) Tryz.func52 rfl Tryz.ntmps52 rfl ?_
  focus
    refine xc_seq ?_
    refine xc_region ?_
    refine xo_ef rfl (ef_box rfl fun r1 => ?_)
    refine xo_rd (rd_assign rfl) rfl ?_
    refine xo_nil ?_
    refine xq_seq ?_
    refine xc_seq ?_
    refine xc_region ?_
    refine xo_rd (rd_assign rfl) rfl ?_
    refine xo_nil ?_
    refine xq_seq ?_
    refine xc_seq ?_
    refine xc_seq ?_
    refine xc_region ?_
    refine xo_rd (rd_assign rfl) rfl ?_
    refine xo_nil ?_
    refine xq_seq ?_
    refine xc_block ?_
  refine xc_loopI (ι := Nat × (Option Addr × Nat × List Blk)) (fun s => s.1 ≤ x.ws.length ∧ SlQ 1 3 (.slice s.2.1 (audL ((x.ws.take s.1).map Wx.a) x.f.a.held x.f.a.who).length s.2.2.1) (audL ((x.ws.take s.1).map Wx.a) x.f.a.held x.f.a.who).length (ints .i64 (audL ((x.ws.take s.1).map Wx.a) x.f.a.held x.f.a.who)) s.2.2.2) (fun s => x.ws.length - s.1) (fun s => (r1, Obj.cells x.enc.toArray 45 (0, 0)) :: (s.2.2.2 ++ L)) (fun s => [(1, .pointer (some ⟨r1, 0, none⟩)), (3, .slice s.2.1 (audL ((x.ws.take s.1).map Wx.a) x.f.a.held x.f.a.who).length s.2.2.1), (4, .int .i64 s.1)]) (0, none, 0, []) ⟨Nat.zero_le _, by dsimp only; rw [List.take_zero]; exact SlQ.nil⟩ rfl (by dsimp only; rw [List.take_zero]; exact (by repeat (first | exact keep_nil | refine keep_cons rfl ?_))) ?_
  rintro ⟨i, q, kk, lb⟩ ⟨hi, hsl⟩
  dsimp only at hi hsl ⊢
  by_cases hin : i < x.ws.length
  · obtain ⟨b, o, hp, hc⟩ := hx.xs.rows Wx.len (by decide) (by omega)
    have hci := hc i hin
    obtain ⟨e, hee⟩ : ∃ e, x.ws[i] = e := ⟨_, rfl⟩
    rw [hee] at hci
    have hci2 : ∀ L', (∀ z, z ∈ L → z ∈ L') → ∀ j u, e.enc[j]? = some u → Cl W L' b (o + (i : Int).toNat * 3 + j) u := fun L' h j u hj => (hci j u hj).mono h
    have htk : (x.ws.take (i + 1)).map Wx.a = (x.ws.take i).map Wx.a ++ [e.a] := by rw [List.take_add_one, List.getElem?_eq_getElem hin, hee, List.map_append]; rfl
    have hll := audL_le ((x.ws.take i).map Wx.a) x.f.a.held x.f.a.who
    rw [List.length_map, List.length_take] at hll
    have hno : ¬ (e.a.ct && !(x.f.a.held && decide (x.f.a.who = e.a.id))) = true → audL ((x.ws.take (i + 1)).map Wx.a) x.f.a.held x.f.a.who = audL ((x.ws.take i).map Wx.a) x.f.a.held x.f.a.who := fun h => by rw [htk, audL_snoc, if_neg h, List.append_nil]
    have hyes : (e.a.ct && !(x.f.a.held && decide (x.f.a.who = e.a.id))) = true → audL ((x.ws.take (i + 1)).map Wx.a) x.f.a.held x.f.a.who = audL ((x.ws.take i).map Wx.a) x.f.a.held x.f.a.who ++ [e.a.id] := fun h => by rw [htk, audL_snoc, if_pos h]
    focus
      refine xc_seq ?_
      refine xc_seq ?_
      refine xc_region ?_
      refine xo_rd (rd_move rfl) rfl ?_
      refine xo_rd (rd_fieldAddr rfl) rfl ?_
      refine xo_rd (rd_cast (v' := .slice (some ⟨b, o, none⟩) x.ws.length x.xc) (rd_load1 rfl (Cl.own (i := 13) List.mem_cons_self rfl)) (by rw [← hp]; rfl)) rfl ?_
      refine xo_rd (rd_len rfl) rfl ?_
      refine xo_rd (rd_lss rfl rfl) rfl ?_
      refine xo_nil ?_
      refine xq_seq ?_
      refine xc_dec rfl (fun hz1 => ?_) (fun hz1 => (by exfalso; omega))
      refine xc_skip ?_
      refine xq_seq ?_
      refine xc_seq ?_
      refine xc_block ?_
      refine xc_seq ?_
      refine xc_region ?_
      refine xo_rd (rd_fieldAddr rfl) rfl ?_
      refine xo_rd (rd_cast (v' := .slice (some ⟨b, o, none⟩) x.ws.length x.xc) (rd_load1 rfl (Cl.own (i := 13) List.mem_cons_self rfl)) (by rw [← hp]; rfl)) rfl ?_
      refine xo_rd (rd_move rfl) rfl ?_
      refine xo_rd (rd_indexAddr rfl rfl (by omega) (by omega)) rfl ?_
      refine xo_rd (rd_loadA (vs := e.enc) rfl rfl (hci2 _ (by intro z hz; simp [hz]))) rfl ?_
      refine xo_ef rfl (ef_alloc fun r5 => ?_)
      refine xo_ef rfl (ef_storeB [] _ rfl rfl (by first | rfl | assumption) rfl rfl rfl ?_)
      refine xo_nil ?_
      refine xq_seq ?_
      refine xc_seq ?_
      refine xc_region ?_
      refine xo_rd (rd_fieldAddr rfl) rfl ?_
      refine xo_rd (rd_load1 rfl (Cl.o0 rfl)) rfl ?_
      refine xo_rd (rd_move rfl) rfl ?_
      refine xo_split 20 rfl (fun hz2 => ?_) (fun hz2 => ?_)
      refine xo_grd rfl rfl (rd_fieldAddr rfl) rfl ?_
      refine xo_grd rfl rfl (rd_fieldAddr rfl) rfl ?_
      refine xo_grd rfl rfl (rd_load1 rfl (Cl.o1 rfl)) rfl ?_
      refine xo_grd rfl rfl (rd_move rfl) rfl ?_
      refine xo_split 24 rfl (fun hz3 => ?_) (fun hz3 => ?_)
      refine xo_grd rfl rfl (rd_fieldAddr rfl) rfl ?_
      refine xo_grd rfl rfl (rd_fieldAddr rfl) rfl ?_
      refine xo_grd rfl rfl (rd_fieldAddr rfl) rfl ?_
      refine xo_grd rfl rfl (rd_load1 rfl (Cl.o1 rfl)) rfl ?_
      refine xo_grd rfl rfl (rd_convn rfl (by omega) (by omega)) rfl ?_
      refine xo_grd rfl rfl (rd_fieldAddr rfl) rfl ?_
      refine xo_grd rfl rfl (rd_load1 rfl (Cl.o0 rfl)) rfl ?_
      refine xo_grd rfl rfl (rd_eql rfl rfl) rfl ?_
      refine xo_grd rfl rfl (rd_pickt rfl rfl) rfl ?_
      refine xo_grd rfl rfl (rd_not rfl) rfl ?_
      refine xo_rd (rd_pickt rfl rfl) rfl ?_
      refine xo_nil ?_
      refine xq_seq ?_
      refine xc_ndec rfl (fun hz4 => ?_) (fun hz4 => ?_)
      refine xc_region ?_
      refine xo_rd (rd_move rfl) rfl ?_
      refine xo_rd (rd_fieldAddr rfl) rfl ?_
      refine xo_rd (rd_load1 rfl (Cl.o0 rfl)) rfl ?_
      refine xo_ef rfl (ef_buildL (T := 50) (len := 1) (s := 1) (cells := (ints .i64 [e.a.id]).toArray) rfl (by decide) (by decide) (by kernel_rfl) fun r39 => ?_)
      refine xo_ef rfl (ef_appendQS [_, _, _] L lb (news := ints .i64 [e.a.id]) rfl rfl hsl rfl rs_cons rfl rfl (by decide) (by omega) (by omega) fun q2 kk2 lb2 hO2 hk2 => ?_)
      refine xo_rd (rd_assign rfl) rfl ?_
      refine xo_nil ?_
      refine xq_block ?_
      refine xq_seq ?_
      refine xc_region ?_
      refine xo_rd (rd_move rfl) rfl ?_
      refine xo_rd (rd_addn rfl rfl (by omega) (by omega)) rfl ?_
      refine xo_rd (rd_assign rfl) rfl ?_
      refine xo_nil ?_
      rotate_left
      refine xc_skip ?_
      refine xq_block ?_
      refine xq_seq ?_
      refine xc_region ?_
      refine xo_rd (rd_move rfl) rfl ?_
      refine xo_rd (rd_addn rfl rfl (by omega) (by omega)) rfl ?_
      refine xo_rd (rd_assign rfl) rfl ?_
      refine xo_nil ?_
      rotate_left
      refine xo_gskip rfl rfl rfl rfl ?_
      refine xo_gskip rfl rfl rfl rfl ?_
      refine xo_gskip rfl rfl rfl rfl ?_
      refine xo_gskip rfl rfl rfl rfl ?_
      refine xo_gskip rfl rfl rfl rfl ?_
      refine xo_gskip rfl rfl rfl rfl ?_
      refine xo_gskip rfl rfl rfl rfl ?_
      refine xo_gskip rfl rfl rfl rfl ?_
      refine xo_grd rfl rfl (rd_pickf rfl rfl) rfl ?_
      refine xo_grd rfl rfl (rd_not rfl) rfl ?_
      refine xo_rd (rd_pickt rfl rfl) rfl ?_
      refine xo_nil ?_
      refine xq_seq ?_
      refine xc_condt rfl ?_
      refine xc_region ?_
      refine xo_rd (rd_move rfl) rfl ?_
      refine xo_rd (rd_fieldAddr rfl) rfl ?_
      refine xo_rd (rd_load1 rfl (Cl.o0 rfl)) rfl ?_
      refine xo_ef rfl (ef_buildL (T := 50) (len := 1) (s := 1) (cells := (ints .i64 [e.a.id]).toArray) rfl (by decide) (by decide) (by kernel_rfl) fun r39 => ?_)
      refine xo_ef rfl (ef_appendQS [_, _, _] L lb (news := ints .i64 [e.a.id]) rfl rfl hsl rfl rs_cons rfl rfl (by decide) (by omega) (by omega) fun q2 kk2 lb2 hO2 hk2 => ?_)
      refine xo_rd (rd_assign rfl) rfl ?_
      refine xo_nil ?_
      refine xq_block ?_
      refine xq_seq ?_
      refine xc_region ?_
      refine xo_rd (rd_move rfl) rfl ?_
      refine xo_rd (rd_addn rfl rfl (by omega) (by omega)) rfl ?_
      refine xo_rd (rd_assign rfl) rfl ?_
      refine xo_nil ?_
      rotate_left
      refine xo_gskip rfl rfl rfl rfl ?_
      refine xo_gskip rfl rfl rfl rfl ?_
      refine xo_gskip rfl rfl rfl rfl ?_
      refine xo_gskip rfl rfl rfl rfl ?_
      refine xo_gskipU rfl rfl rfl ?_
      refine xo_gskipU rfl rfl rfl ?_
      refine xo_gskipU rfl rfl rfl ?_
      refine xo_gskipU rfl rfl rfl ?_
      refine xo_gskipU rfl rfl rfl ?_
      refine xo_gskipU rfl rfl rfl ?_
      refine xo_gskipU rfl rfl rfl ?_
      refine xo_gskipU rfl rfl rfl ?_
      refine xo_gskip rfl rfl rfl rfl ?_
      refine xo_gskip rfl rfl rfl rfl ?_
      refine xo_rd (rd_pickf rfl rfl) rfl ?_
      refine xo_nil ?_
      refine xq_seq ?_
      refine xc_condf rfl ?_
      refine xc_skip ?_
      refine xq_block ?_
      refine xq_seq ?_
      refine xc_region ?_
      refine xo_rd (rd_move rfl) rfl ?_
      refine xo_rd (rd_addn rfl rfl (by omega) (by omega)) rfl ?_
      refine xo_rd (rd_assign rfl) rfl ?_
      refine xo_nil ?_
      rotate_left
    · have hH := hyes (by rw [hz2, hz3, decide_eq_false hz4]; rfl)
      exact xq_sub (List.sublist_append_right [_, _] _) (xq_roundI ((i + 1, q2, kk2, lb2) : Nat × (Option Addr × Nat × List Blk)) ⟨by dsimp only; omega, by dsimp only; rw [hH, List.length_append, ints_app]; exact hO2⟩ (by dsimp only; omega) rfl (by dsimp only; rw [hH, List.length_append]; exact (by repeat (first | exact keep_nil | refine keep_cons rfl ?_))))
    · have hH := hno (by rw [hz2, hz3, decide_eq_true hz4]; decide)
      exact xq_sub (List.sublist_cons_self _ _) (xq_roundI ((i + 1, q, kk, lb) : Nat × (Option Addr × Nat × List Blk)) ⟨by dsimp only; omega, by dsimp only; rw [hH]; exact hsl⟩ (by dsimp only; omega) rfl (by dsimp only; rw [hH]; exact (by repeat (first | exact keep_nil | refine keep_cons rfl ?_))))
    · have hH := hyes (by rw [hz2, hz3]; rfl)
      exact xq_sub (List.sublist_append_right [_, _] _) (xq_roundI ((i + 1, q2, kk2, lb2) : Nat × (Option Addr × Nat × List Blk)) ⟨by dsimp only; omega, by dsimp only; rw [hH, List.length_append, ints_app]; exact hO2⟩ (by dsimp only; omega) rfl (by dsimp only; rw [hH, List.length_append]; exact (by repeat (first | exact keep_nil | refine keep_cons rfl ?_))))
    · have hH := hno (by rw [hz2, Bool.false_and]; decide)
      exact xq_sub (List.sublist_cons_self _ _) (xq_roundI ((i + 1, q, kk, lb) : Nat × (Option Addr × Nat × List Blk)) ⟨by dsimp only; omega, by dsimp only; rw [hH]; exact hsl⟩ (by dsimp only; omega) rfl (by dsimp only; rw [hH]; exact (by repeat (first | exact keep_nil | refine keep_cons rfl ?_))))
  · rw [List.take_of_length_le (by omega)] at hsl
    focus
      refine xc_seq ?_
      refine xc_seq ?_
      refine xc_region ?_
      refine xo_rd (rd_move rfl) rfl ?_
      refine xo_rd (rd_fieldAddr rfl) rfl ?_
      refine xo_rd (rd_load1 rfl (Cl.o0 rfl)) rfl ?_
      refine xo_rd (rd_len rfl) rfl ?_
      refine xo_rd (rd_lss rfl rfl) rfl ?_
      refine xo_nil ?_
      refine xq_seq ?_
      refine xc_dec rfl (fun h1 => (by exfalso; omega)) (fun h1 => ?_)
      refine xc_exit ?_
      refine xq_then_exit ?_
      refine xq_then_exit ?_
      refine xq_block_hit ?_
      refine xq_seq ?_
      refine xc_seq ?_
      refine xc_region ?_
      refine xo_rd (rd_move rfl) rfl ?_
      refine xo_rd (rd_assign rfl) rfl ?_
      refine xo_nil ?_
      refine xq_seq ?_
      refine xc_ret ?_
    exact xq_sub (List.sublist_cons_self _ _) (xq_ret1 (.inl rfl) Tryz.results52 rfl ⟨q, kk, lb, by rw [List.take_of_length_le (by omega)]; rfl, hsl, rfl⟩)
def vieL (ws : List Wa) (y : Int) : List Int := (ws.filter fun w => decide (y ∈ w.cs)).map Wa.id
theorem vieL_snoc (ws : List Wa) (w : Wa) (y : Int) : vieL (ws ++ [w]) y = vieL ws y ++ if y ∈ w.cs then [w.id] else [] := by
  unfold vieL
  rw [List.filter_append, List.map_append]
  congr 1
  by_cases h : y ∈ w.cs
  · rw [if_pos h, List.filter_cons, if_pos (decide_eq_true h)]; rfl
  · rw [if_neg h, List.filter_cons, if_neg (by simpa using h)]; rfl
theorem vieL_le (ws : List Wa) (y : Int) : (vieL ws y).length ≤ ws.length := by
  unfold vieL; rw [List.length_map]; exact List.length_filter_le _ _
set_option maxHeartbeats 800000 in
theorem xf_r2Viewers {W : World} {L : List Blk} (x : Rr) (hx : x.At W L) (y : Int) : XF Tryz.prog W 53 #[.agg x.enc.toArray, .int .i64 y] L (fun v L' => ∃ q kk lb g, v = .slice q (vieL x.ra.ws y).length kk ∧ SlQ 1 3 (.slice q (vieL x.ra.ws y).length kk) (vieL x.ra.ws y).length (ints .i64 (vieL x.ra.ws y)) lb ∧ L' = lb ++ (g ++ L)) := by
  have hxl := hx.xl
  refine xf_enter (args := [_, _]) Tryz.func53 rfl Tryz.ntmps53 rfl ?_
  focus
    refine xc_seq ?_
    refine xc_region ?_
    refine xo_ef rfl (ef_box rfl fun r2 => ?_)
    refine xo_rd (rd_assign rfl) rfl ?_
    refine xo_nil ?_
    refine xq_seq ?_
    refine xc_seq ?_
    refine xc_region ?_
    refine xo_rd (rd_assign rfl) rfl ?_
    refine xo_nil ?_
    refine xq_seq ?_
    refine xc_seq ?_
    refine xc_seq ?_
    refine xc_region ?_
    refine xo_rd (rd_assign rfl) rfl ?_
    refine xo_nil ?_
    refine xq_seq ?_
    refine xc_block ?_
  refine xc_loopI (ι := Nat × (Option Addr × Nat × List Blk × List Blk)) (fun s => s.1 ≤ x.ws.length ∧ SlQ 1 3 (.slice s.2.1 (vieL ((x.ws.take s.1).map Wx.a) y).length s.2.2.1) (vieL ((x.ws.take s.1).map Wx.a) y).length (ints .i64 (vieL ((x.ws.take s.1).map Wx.a) y)) s.2.2.2.1) (fun s => x.ws.length - s.1) (fun s => (r2, Obj.cells x.enc.toArray 45 (0, 0)) :: (s.2.2.2.1 ++ (s.2.2.2.2 ++ L))) (fun s => [(1, .int .i64 y), (2, .pointer (some ⟨r2, 0, none⟩)), (5, .slice s.2.1 (vieL ((x.ws.take s.1).map Wx.a) y).length s.2.2.1), (6, .int .i64 s.1)]) (0, none, 0, [], []) ⟨Nat.zero_le _, by dsimp only; rw [List.take_zero]; exact SlQ.nil⟩ rfl (by dsimp only; rw [List.take_zero]; exact (by repeat (first | exact keep_nil | refine keep_cons rfl ?_))) ?_
  rintro ⟨i, q, kk, lb, g⟩ ⟨hi, hsl⟩
  dsimp only at hi hsl ⊢
  by_cases hin : i < x.ws.length
  · obtain ⟨b, o, hp, hc⟩ := hx.xs.rows Wx.len (by decide) (by omega)
    have hci := hc i hin
    obtain ⟨e, hee⟩ : ∃ e, x.ws[i] = e := ⟨_, rfl⟩
    rw [hee] at hci
    have hem : e ∈ x.ws := hee ▸ List.getElem_mem hin
    have hci2 : ∀ L', (∀ z, z ∈ L → z ∈ L') → ∀ j u, e.enc[j]? = some u → Cl W L' b (o + (i : Int).toNat * 3 + j) u := fun L' h j u hj => (hci j u hj).mono h
    have htk : (x.ws.take (i + 1)).map Wx.a = (x.ws.take i).map Wx.a ++ [e.a] := by rw [List.take_add_one, List.getElem?_eq_getElem hin, hee, List.map_append]; rfl
    have hll := vieL_le ((x.ws.take i).map Wx.a) y
    rw [List.length_map, List.length_take] at hll
    have hwt := fun L' (h : ∀ z, z ∈ L → z ∈ L') => xf_rwithout (W := W) (L := L') e.p e.a.cs.length e.c e.a.cs rfl ((hx.w e hem).mono h) (by have := hx.cl e hem; omega) y
    by_cases hy : y ∈ e.a.cs
    · have hlt := (filter_lt (l := e.a.cs) (c := y)).2 hy
      have hH : vieL ((x.ws.take (i + 1)).map Wx.a) y = vieL ((x.ws.take i).map Wx.a) y ++ [e.a.id] := by rw [htk, vieL_snoc, if_pos hy]
      focus
        refine xc_seq ?_
        refine xc_seq ?_
        refine xc_region ?_
        refine xo_rd (rd_move rfl) rfl ?_
        refine xo_rd (rd_fieldAddr rfl) rfl ?_
        refine xo_rd (rd_cast (v' := .slice (some ⟨b, o, none⟩) x.ws.length x.xc) (rd_load1 rfl (Cl.own (i := 13) List.mem_cons_self rfl)) (by rw [← hp]; rfl)) rfl ?_
        refine xo_rd (rd_len rfl) rfl ?_
        refine xo_rd (rd_lss rfl rfl) rfl ?_
        refine xo_nil ?_
        refine xq_seq ?_
        refine xc_dec rfl (fun h1 => ?_) (fun h1 => (by exfalso; omega))
        refine xc_skip ?_
        refine xq_seq ?_
        refine xc_seq ?_
        refine xc_block ?_
        refine xc_seq ?_
        refine xc_region ?_
        refine xo_rd (rd_fieldAddr rfl) rfl ?_
        refine xo_rd (rd_cast (v' := .slice (some ⟨b, o, none⟩) x.ws.length x.xc) (rd_load1 rfl (Cl.own (i := 13) List.mem_cons_self rfl)) (by rw [← hp]; rfl)) rfl ?_
        refine xo_rd (rd_move rfl) rfl ?_
        refine xo_rd (rd_indexAddr rfl rfl (by omega) (by omega)) rfl ?_
        refine xo_rd (rd_fieldAddr rfl) rfl ?_
        refine xo_rd (rd_load1 rfl (hci2 _ (by intro z hz; simp [hz]) 2 _ rfl)) rfl ?_
        refine xo_rd (rd_assign rfl) rfl ?_
        refine xo_nil ?_
        refine xq_seq ?_
        refine xc_seq ?_
        refine xc_region ?_
        refine xo_rd (rd_move rfl) rfl ?_
        refine xo_rd (rd_move rfl) rfl ?_
        refine xo_ef rfl (ef_call rfl (XF.mono (hwt _ (by intro z hz; simp [hz])) ?_))
        rintro v L' ⟨q1, k1, l1, rfl, hO1, rfl⟩
        refine xo_seg [_] l1 _ ?_
        refine xo_rd (rd_len rfl) rfl ?_
        refine xo_rd (rd_move rfl) rfl ?_
        refine xo_rd (rd_len rfl) rfl ?_
        refine xo_rd (rd_lss rfl rfl) rfl ?_
        refine xo_nil ?_
        refine xq_seq ?_
        refine xc_dec rfl (fun h2 => ?_) (fun h2 => (by exfalso; omega))
        refine xc_region ?_
        refine xo_rd (rd_move rfl) rfl ?_
        refine xo_rd (rd_fieldAddr rfl) rfl ?_
        refine xo_rd (rd_cast (v' := .slice (some ⟨b, o, none⟩) x.ws.length x.xc) (rd_load1 rfl (Cl.own (i := 13) List.mem_cons_self rfl)) (by rw [← hp]; rfl)) rfl ?_
        refine xo_rd (rd_move rfl) rfl ?_
        refine xo_rd (rd_indexAddr rfl rfl (by omega) (by omega)) rfl ?_
        refine xo_rd (rd_fieldAddr rfl) rfl ?_
        refine xo_rd (rd_load1 rfl (hci2 _ (by intro z hz; simp [hz]) 0 _ rfl)) rfl ?_
        refine xo_ef rfl (ef_buildL (T := 50) (len := 1) (s := 1) (cells := (ints .i64 [e.a.id]).toArray) rfl (by decide) (by decide) (by kernel_rfl) fun r39 => ?_)
        refine xo_ef rfl (ef_appendQS (_ :: _ :: l1) (g ++ L) lb (news := ints .i64 [e.a.id]) rfl rfl hsl rfl rs_cons rfl rfl (by decide) (by omega) (by omega) fun q2 kk2 lb2 hO2 hk2 => ?_)
        refine xo_rd (rd_assign rfl) rfl ?_
        refine xo_nil ?_
        refine xq_block ?_
        refine xq_seq ?_
        refine xc_region ?_
        refine xo_rd (rd_move rfl) rfl ?_
        refine xo_rd (rd_addn rfl rfl (by omega) (by omega)) rfl ?_
        refine xo_rd (rd_assign rfl) rfl ?_
        refine xo_nil ?_
      exact xq_sub (((List.sublist_append_right l1 _).cons_cons _).trans (List.sublist_cons_self _ _)) (xq_roundI ((i + 1, q2, kk2, lb2, g) : Nat × (Option Addr × Nat × List Blk × List Blk)) ⟨by dsimp only; omega, by dsimp only; rw [hH, List.length_append, ints_app]; exact hO2⟩ (by dsimp only; omega) rfl (by dsimp only; rw [hH, List.length_append]; exact (by repeat (first | exact keep_nil | refine keep_cons rfl ?_))))
    · have hlt : ¬ (e.a.cs.filter fun x => !decide (x = y)).length < e.a.cs.length := fun h => hy (filter_lt.1 h)
      have hH : vieL ((x.ws.take (i + 1)).map Wx.a) y = vieL ((x.ws.take i).map Wx.a) y := by rw [htk, vieL_snoc, if_neg hy, List.append_nil]
      focus
        refine xc_seq ?_
        refine xc_seq ?_
        refine xc_region ?_
        refine xo_rd (rd_move rfl) rfl ?_
        refine xo_rd (rd_fieldAddr rfl) rfl ?_
        refine xo_rd (rd_cast (v' := .slice (some ⟨b, o, none⟩) x.ws.length x.xc) (rd_load1 rfl (Cl.own (i := 13) List.mem_cons_self rfl)) (by rw [← hp]; rfl)) rfl ?_
        refine xo_rd (rd_len rfl) rfl ?_
        refine xo_rd (rd_lss rfl rfl) rfl ?_
        refine xo_nil ?_
        refine xq_seq ?_
        refine xc_dec rfl (fun h1 => ?_) (fun h1 => (by exfalso; omega))
        refine xc_skip ?_
        refine xq_seq ?_
        refine xc_seq ?_
        refine xc_block ?_
        refine xc_seq ?_
        refine xc_region ?_
        refine xo_rd (rd_fieldAddr rfl) rfl ?_
        refine xo_rd (rd_cast (v' := .slice (some ⟨b, o, none⟩) x.ws.length x.xc) (rd_load1 rfl (Cl.own (i := 13) List.mem_cons_self rfl)) (by rw [← hp]; rfl)) rfl ?_
        refine xo_rd (rd_move rfl) rfl ?_
        refine xo_rd (rd_indexAddr rfl rfl (by omega) (by omega)) rfl ?_
        refine xo_rd (rd_fieldAddr rfl) rfl ?_
        refine xo_rd (rd_load1 rfl (hci2 _ (by intro z hz; simp [hz]) 2 _ rfl)) rfl ?_
        refine xo_rd (rd_assign rfl) rfl ?_
        refine xo_nil ?_
        refine xq_seq ?_
        refine xc_seq ?_
        refine xc_region ?_
        refine xo_rd (rd_move rfl) rfl ?_
        refine xo_rd (rd_move rfl) rfl ?_
        refine xo_ef rfl (ef_call rfl (XF.mono (hwt _ (by intro z hz; simp [hz])) ?_))
        rintro v L' ⟨q1, k1, l1, rfl, hO1, rfl⟩
        refine xo_seg [_] l1 _ ?_
        refine xo_rd (rd_len rfl) rfl ?_
        refine xo_rd (rd_move rfl) rfl ?_
        refine xo_rd (rd_len rfl) rfl ?_
        refine xo_rd (rd_lss rfl rfl) rfl ?_
        refine xo_nil ?_
        refine xq_seq ?_
        refine xc_dec rfl (fun h2 => (by exfalso; omega)) (fun h2 => ?_)
        refine xc_skip ?_
        refine xq_block ?_
        refine xq_seq ?_
        refine xc_region ?_
        refine xo_rd (rd_move rfl) rfl ?_
        refine xo_rd (rd_addn rfl rfl (by omega) (by omega)) rfl ?_
        refine xo_rd (rd_assign rfl) rfl ?_
        refine xo_nil ?_
      exact xq_sub ((List.sublist_append_right l1 _).cons_cons _) (xq_roundI ((i + 1, q, kk, lb, g) : Nat × (Option Addr × Nat × List Blk × List Blk)) ⟨by dsimp only; omega, by dsimp only; rw [hH]; exact hsl⟩ (by dsimp only; omega) rfl (by dsimp only; rw [hH]; exact (by repeat (first | exact keep_nil | refine keep_cons rfl ?_))))
  · rw [List.take_of_length_le (by omega)] at hsl
    focus
      refine xc_seq ?_
      refine xc_seq ?_
      refine xc_region ?_
      refine xo_rd (rd_move rfl) rfl ?_
      refine xo_rd (rd_fieldAddr rfl) rfl ?_
      refine xo_rd (rd_load1 rfl (Cl.o0 rfl)) rfl ?_
      refine xo_rd (rd_len rfl) rfl ?_
      refine xo_rd (rd_lss rfl rfl) rfl ?_
      refine xo_nil ?_
      refine xq_seq ?_
      refine xc_dec rfl (fun h1 => (by exfalso; omega)) (fun h1 => ?_)
      refine xc_exit ?_
      refine xq_then_exit ?_
      refine xq_then_exit ?_
      refine xq_block_hit ?_
      refine xq_seq ?_
      refine xc_seq ?_
      refine xc_region ?_
      refine xo_rd (rd_move rfl) rfl ?_
      refine xo_rd (rd_assign rfl) rfl ?_
      refine xo_nil ?_
      refine xq_seq ?_
      refine xc_ret ?_
    exact xq_sub (List.sublist_cons_self _ _) (xq_ret1 (.inl rfl) Tryz.results53 rfl ⟨q, kk, lb, g, by rw [List.take_of_length_le (by omega)]; rfl, hsl, rfl⟩)
end Go.Proofs.YtmdeajdaeihniaaGreat.X
/-
  Chapter 25: what holds of a room, whatever is called: no program in sight, no condition.
-/
namespace Go.Proofs.YtmdeajdaeihniaaGreat.X
open Go Go.RowKit
set_option linter.unusedVariables false
set_option linter.unusedSimpArgs false
/-- What holds of a floor, told of who is there. -/
structure FI (f : Fa) (ids : List Int) (i : Nat) : Prop where
  hd : f.held = true → f.who ∈ ids
  wt : ∀ z, z ∈ f.wt → z ∈ ids
  fr : f.held = false → f.who = 0
  he : 0 ≤ f.heard
  gs : f.gs.length ≤ i
theorem FI.up {f : Fa} {ids : List Int} {i : Nat} (h : FI f ids i) : FI f ids (i + 1) := ⟨h.hd, h.wt, h.fr, h.he, by have := h.gs; omega⟩
theorem FI.grant {f : Fa} {ids : List Int} {i : Nat} {w now : Int} (h : FI f ids i) (hw : w ∈ ids) (hn : 0 ≤ now) : FI (grantF f w now) ids (i + 1) :=
  ⟨fun _ => hw, h.wt, (fun e => by cases e), hn, by unfold grantF; dsimp only; rw [List.length_append]; have := h.gs; simp; omega⟩
theorem FI.fin {f : Fa} {ids : List Int} {i : Nat} {now : Int} (h : FI f ids i) (hn : 0 ≤ now) : FI (endF f now) ids (i + 1) := by
  unfold endF
  cases hw : f.wt with
  | nil => exact ⟨(fun e => by cases e), (fun z hz => by cases hz), (fun _ => rfl), Int.le_refl _, by show f.gs.length ≤ _; have := h.gs; omega⟩
  | cons w r =>
    have hwm : ∀ z, z ∈ w :: r → z ∈ ids := fun z hz => h.wt z (by rw [hw]; exact hz)
    have h2 : FI (freeF f r) ids i := ⟨(fun e => by cases e), (fun z hz => hwm z (List.mem_cons_of_mem _ hz)), (fun _ => rfl), Int.le_refl _, h.gs⟩
    exact h2.grant (hwm w List.mem_cons_self) hn
/-- What holds of a room. -/
structure Inv (M : Int) (a : Ra) (i : Nat) : Prop where
  mo : a.most = M ∧ M ≤ 32
  id : a.ws.map Wa.id = a.ms.map Mb.id
  nd : (a.ms.map Mb.id).Nodup
  rg : ∀ z, z ∈ a.ms.map Mb.id → 0 ≤ z ∧ z ≤ 2147483647
  fm : ∀ z, isM a.fl.ms z = true ↔ z ∈ a.ms.map Mb.id
  fn : (a.fl.ms.map (·.1)).Nodup
  fi : FI a.fl (a.ms.map Mb.id) i
  cm : ∀ w, w ∈ a.ws → w.cs.Nodup ∧ ∀ c, c ∈ w.cs → c ∈ a.ms.map Mb.id ∧ c ≠ w.id
  ln : (a.ms.length : Int) ≤ M
theorem Inv.up {M : Int} {a : Ra} {i : Nat} (h : Inv M a i) : Inv M a (i + 1) := ⟨h.mo, h.id, h.nd, h.rg, h.fm, h.fn, h.fi.up, h.cm, h.ln⟩
theorem Inv.fl {M : Int} {a : Ra} {i : Nat} (h : Inv M a i) {g : Fa} (hm : g.ms = a.fl.ms) (hf : FI g (a.ms.map Mb.id) (i + 1)) : Inv M { a with fl := g } (i + 1) :=
  ⟨h.mo, h.id, h.nd, h.rg, by dsimp only; rw [hm]; exact h.fm, by dsimp only; rw [hm]; exact h.fn, hf, h.cm, h.ln⟩
theorem endF_ms (f : Fa) (now : Int) : (endF f now).ms = f.ms := by unfold endF; split <;> rfl
theorem getId_mem' {l : List Mb} {z : Int} : (getId l z).isSome = true ↔ z ∈ l.map Mb.id := by
  unfold getId
  rw [List.find?_isSome, List.mem_map]
  simp
theorem Inv.len {M : Int} {a : Ra} {i : Nat} (h : Inv M a i) : a.fl.ms.length = a.ms.length := by
  have hp : (a.fl.ms.map (·.1)).Perm (a.ms.map Mb.id) := (List.perm_ext_iff_of_nodup h.fn h.nd).2 fun z => by rw [← h.fm z, isM_mem]
  have := hp.length_eq
  rwa [List.length_map, List.length_map] at this
theorem Inv.join {M : Int} {a : Ra} {i : Nat} (h : Inv M a i) (m : Mb) : Inv M (jnA a m) (i + 1) := by
  unfold jnA
  by_cases he : jnE a m = 0
  case neg => rw [if_neg he]; exact h.up
  rw [if_pos he]
  unfold jnE at he
  by_cases hbig : 2147483647 < m.id
  · rw [if_pos hbig] at he; cases he
  rw [if_neg hbig] at he
  obtain ⟨hr, hg⟩ := joinR_ok he
  have hni : m.id ∉ a.ms.map Mb.id := getId_none hg
  have hid0 : 0 ≤ m.id := by
    rcases Int.lt_or_le m.id 0 with h | h
    · exact absurd (.inl h) hr
    · exact h
  have hm32 := h.mo.2
  have hlen : (a.ms.length : Int) < M := by
    have hmo := h.mo.1
    unfold joinR at he
    rw [if_neg (Decidable.not_not.2 hr), if_neg (by rw [hg]; decide)] at he
    split at he
    · cases he
    · split at he
      · cases he
      · omega
  have him : isM a.fl.ms m.id = false := by
    cases hm : isM a.fl.ms m.id with
    | false => rfl
    | true => exact absurd ((h.fm m.id).1 hm) hni
  have hjE : joinE a.fl m.id = 0 := by
    unfold joinE
    rw [him, if_neg (by decide), if_neg (by rw [h.len]; omega)]
  have hjF : joinF a.fl m.id m.mod = { a.fl with ms := insM m.id m.mod a.fl.ms } := by unfold joinF; rw [if_pos hjE]
  have hids : (a.ms ++ [m]).map Mb.id = a.ms.map Mb.id ++ [m.id] := by rw [List.map_append]; rfl
  refine ⟨h.mo, ?_, ?_, ?_, ?_, ?_, ?_, ?_, by dsimp only; rw [List.length_append, List.length_singleton]; omega⟩
  · dsimp only
    rw [List.map_append, h.id, hids]; rfl
  · dsimp only
    rw [hids]
    refine List.nodup_append.2 ⟨h.nd, by simp, fun x hx y hy e => ?_⟩
    rw [List.mem_singleton] at hy
    subst hy; subst e
    exact hni hx
  · dsimp only
    rw [hids]
    intro z hz
    rcases List.mem_append.1 hz with h1 | h1
    · exact h.rg z h1
    · rw [List.mem_singleton.1 h1]; omega
  · dsimp only
    rw [hids, hjF]
    intro z
    dsimp only
    rw [isM_mem, List.mem_append, List.mem_singleton, ← h.fm, isM_mem]
    constructor
    · intro hz
      obtain ⟨e, he, rfl⟩ := List.mem_map.1 hz
      rcases insM_mem.1 he with rfl | he
      · exact .inr rfl
      · exact .inl (List.mem_map.2 ⟨e, he, rfl⟩)
    · rintro (hz | rfl)
      · obtain ⟨e, he, rfl⟩ := List.mem_map.1 hz
        exact List.mem_map.2 ⟨e, insM_mem.2 (.inr he), rfl⟩
      · exact List.mem_map.2 ⟨(m.id, m.mod), insM_mem.2 (.inl rfl), rfl⟩
  · dsimp only
    rw [hjF]
    exact insM_nodup h.fn him
  · dsimp only
    rw [hids, hjF]
    have hf := h.fi
    exact ⟨fun e => List.mem_append_left _ (hf.hd e), fun z hz => List.mem_append_left _ (hf.wt z hz), hf.fr, hf.he, by have := hf.gs; show a.fl.gs.length ≤ _; omega⟩
  · dsimp only
    rw [hids]
    intro w hw
    rcases List.mem_append.1 hw with h1 | h1
    · exact ⟨(h.cm w h1).1, fun c hc => ⟨List.mem_append_left _ ((h.cm w h1).2 c hc).1, ((h.cm w h1).2 c hc).2⟩⟩
    · rw [List.mem_singleton.1 h1]; exact ⟨List.nodup_nil, fun c hc => by cases hc⟩
theorem filt_erase {l : List Int} {z : Int} (h : l.Nodup) : l.filter (fun x => !decide (x = z)) = l.erase z := by
  rw [h.erase_eq_filter]
  refine List.filter_congr fun x _ => ?_
  simp [bne]
  cases hd : decide (x = z) <;> simp_all
theorem Inv.leave {M : Int} {a : Ra} {i : Nat} (h : Inv M a i) (id now : Int) (hn : 0 ≤ now) : Inv M (lvA a id now) (i + 1) := by
  unfold lvA
  by_cases he : lvE a id = 0
  case neg => rw [if_neg he]; exact h.up
  rw [if_pos he]
  have hm : id ∈ a.ms.map Mb.id := by
    unfold lvE leaveR at he
    split at he
    · rename_i hs; exact getId_mem'.1 hs
    · cases he
  have him : isM a.fl.ms id = true := (h.fm id).2 hm
  have hids : (leaveL a.ms id).map Mb.id = (a.ms.map Mb.id).erase id := ids_leave a.ms id
  have hmem : ∀ z, z ∈ (a.ms.map Mb.id).erase id ↔ z ≠ id ∧ z ∈ a.ms.map Mb.id := fun z => h.nd.mem_erase_iff
  have hout : FI (outF a.fl id) ((a.ms.map Mb.id).erase id) i ∨ holdsA a.fl id = true := by
    by_cases hh : holdsA a.fl id = true
    · exact .inr hh
    · refine .inl ⟨fun e => ?_, fun z hz => ?_, h.fi.fr, h.fi.he, h.fi.gs⟩
      · rw [hmem]
        refine ⟨fun e2 => hh ?_, h.fi.hd e⟩
        unfold holdsA
        rw [show a.fl.held = true from e, decide_eq_true (show a.fl.who = id from e2)]; rfl
      · have := List.mem_filter.1 hz
        rw [hmem]
        exact ⟨by simpa using this.2, h.fi.wt z this.1⟩
  have hfl : FI (leaveF a.fl id now) ((a.ms.map Mb.id).erase id) (i + 1) := by
    unfold leaveF
    rw [if_pos him]
    by_cases hh : holdsA a.fl id = true
    · rw [if_pos hh]
      unfold endF
      have hwt : ∀ z, z ∈ (outF a.fl id).wt → z ∈ (a.ms.map Mb.id).erase id := fun z hz => by
        have := List.mem_filter.1 hz
        rw [hmem]
        exact ⟨by simpa using this.2, h.fi.wt z this.1⟩
      cases hw : (outF a.fl id).wt with
      | nil => exact ⟨(fun e => by cases e), (fun z hz => by cases hz), (fun _ => rfl), Int.le_refl _, by show a.fl.gs.length ≤ _; have := h.fi.gs; omega⟩
      | cons w r =>
        rw [hw] at hwt
        have h2 : FI (freeF (outF a.fl id) r) ((a.ms.map Mb.id).erase id) i := ⟨(fun e => by cases e), (fun z hz => hwt z (List.mem_cons_of_mem _ hz)), (fun _ => rfl), Int.le_refl _, h.fi.gs⟩
        exact h2.grant (hwt w List.mem_cons_self) hn
    · rw [if_neg hh]
      rcases hout with h1 | h1
      · exact h1.up
      · exact absurd h1 hh
  have hms : (leaveF a.fl id now).ms = a.fl.ms.filter fun e => !(e.1 == id) := by
    unfold leaveF
    rw [if_pos him]
    split
    · rw [endF_ms]; rfl
    · rfl
  refine ⟨h.mo, ?_, ?_, ?_, ?_, ?_, ?_, ?_, ?_⟩
  · dsimp only
    rw [hids, List.map_map, ← h.id, ← filt_erase (h.id ▸ h.nd), List.filter_map]
    rfl
  · dsimp only; rw [hids]; exact h.nd.erase _
  · dsimp only; rw [hids]; exact fun z hz => h.rg z ((hmem z).1 hz).2
  · dsimp only
    rw [hids, hms]
    intro z
    rw [hmem, ← h.fm, isM_mem, isM_mem]
    constructor
    · intro hz
      obtain ⟨e, he, rfl⟩ := List.mem_map.1 hz
      have := List.mem_filter.1 he
      exact ⟨by simpa using this.2, List.mem_map.2 ⟨e, this.1, rfl⟩⟩
    · rintro ⟨h1, h2⟩
      obtain ⟨e, he, rfl⟩ := List.mem_map.1 h2
      exact List.mem_map.2 ⟨e, List.mem_filter.2 ⟨he, by simpa using h1⟩, rfl⟩
  · dsimp only; rw [hms]; exact out_nodup h.fn
  · dsimp only; rw [hids]; exact hfl
  · dsimp only
    rw [hids]
    intro w hw
    obtain ⟨u, hu, rfl⟩ := List.mem_map.1 hw
    have hu2 := List.mem_filter.1 hu
    have hc := h.cm u hu2.1
    refine ⟨hc.1.sublist List.filter_sublist, fun c hcm => ?_⟩
    have h3 := List.mem_filter.1 hcm
    exact ⟨(hmem c).2 ⟨by simpa using h3.2, (hc.2 c h3.1).1⟩, (hc.2 c h3.1).2⟩
  · dsimp only
    have h1 : (leaveL a.ms id).length ≤ a.ms.length := List.eraseP_sublist.length_le
    have h2 := h.ln
    omega
end Go.Proofs.YtmdeajdaeihniaaGreat.X
/-
  Chapter 25: what holds of a room after any call; what is told of it: no program in sight, no condition.
-/
namespace Go.Proofs.YtmdeajdaeihniaaGreat.X
open Go Go.RowKit
set_option linter.unusedVariables false
set_option linter.unusedSimpArgs false
theorem dup_no {id : Int} {l : List Int} (h : dupI id l = false) : l.Nodup ∧ ∀ c, c ∈ l → c ≠ id := by
  rw [dupI_def, List.any_eq_false] at h
  have h1 : ∀ (j : Nat) (hj : j < l.length), l[j] ≠ id ∧ l[j] ∉ l.take j := fun j hj => by
    have := h j (List.mem_range.2 hj)
    rw [Bool.not_eq_true, Bool.or_eq_false_iff, List.getD_eq_getElem?_getD, List.getElem?_eq_getElem hj] at this
    exact ⟨of_decide_eq_false this.1, of_decide_eq_false this.2⟩
  refine ⟨List.pairwise_iff_getElem.2 fun i j hi hj hij e => (h1 j hj).2 ?_, fun c hc => ?_⟩
  · rw [← e]
    exact List.mem_take_iff_getElem.2 ⟨i, by omega, rfl⟩
  · obtain ⟨j, hj, rfl⟩ := List.mem_iff_getElem.1 hc
    exact (h1 j hj).1
theorem setW_ids (ws : List Wa) (w : Wa) : (setW ws w).map Wa.id = ws.map Wa.id := by
  unfold setW
  rw [List.map_map]
  refine List.map_congr_left fun u _ => ?_
  show (if u.id = w.id then w else u).id = u.id
  split
  · rename_i h; exact h.symm
  · rfl
theorem Inv.sub {M : Int} {a : Ra} {i : Nat} (h : Inv M a i) (id : Int) (ct : Bool) (cs : List Int) : Inv M (sbA a id ct cs) (i + 1) := by
  unfold sbA
  by_cases he : sbE a id cs = 0
  case neg => rw [if_neg he]; exact h.up
  rw [if_pos he]
  unfold sbE at he
  split at he
  case isFalse => cases he
  rename_i hall
  split at he
  case isTrue => cases he
  rename_i hd
  obtain ⟨hnd, hne⟩ := dup_no (by simpa using hd)
  refine ⟨h.mo, (setW_ids a.ws _).trans h.id, h.nd, h.rg, h.fm, h.fn, h.fi.up, ?_, h.ln⟩
  intro w hw
  obtain ⟨u, hu, rfl⟩ := List.mem_map.1 hw
  by_cases hid : u.id = id
  · have : (if u.id = (Wa.mk id ct cs).id then Wa.mk id ct cs else u) = Wa.mk id ct cs := if_pos hid
    rw [this]
    exact ⟨hnd, fun c hc => ⟨getId_mem'.1 (List.all_eq_true.1 hall c (List.mem_cons_of_mem _ hc)), hne c hc⟩⟩
  · have : (if u.id = (Wa.mk id ct cs).id then Wa.mk id ct cs else u) = u := if_neg hid
    rw [this]
    exact h.cm u hu
theorem Inv.req {M : Int} {a : Ra} {i : Nat} (h : Inv M a i) (id now : Int) (hn : 0 ≤ now) : Inv M (rqA a id now) (i + 1) := by
  unfold rqA
  split
  · exact h.up
  · by_cases he : reqE a.fl id = 0
    · have hm : id ∈ a.ms.map Mb.id := by
        unfold reqE at he
        split at he
        · rename_i hm; exact (h.fm id).1 hm
        · cases he
      refine h.fl ?_ ?_
      · unfold reqF; rw [if_pos he]; split <;> rfl
      · unfold reqF
        rw [if_pos he]
        split
        · exact ⟨h.fi.hd, fun z hz => by
            rcases List.mem_append.1 hz with h1 | h1
            · exact h.fi.wt z h1
            · rw [List.mem_singleton.1 h1]; exact hm, h.fi.fr, h.fi.he, by have := h.fi.gs; show a.fl.gs.length ≤ _; omega⟩
        · exact h.fi.grant hm hn
    · have : reqF a.fl id now = a.fl := by unfold reqF; rw [if_neg he]
      exact h.fl (by rw [this]) (by rw [this]; exact h.fi.up)
theorem Inv.done {M : Int} {a : Ra} {i : Nat} (h : Inv M a i) (k : Int) (c : Ac) (now : Int) (hn : 0 ≤ now) : Inv M (doA k a c now) (i + 1) := by
  unfold doA
  split
  · exact h.join c.m
  split
  · exact h.leave c.id now hn
  split
  · exact h.req c.id now hn
  split
  · unfold rlA
    split
    · exact h.up
    · unfold relF
      split
      · exact h.fl (endF_ms _ _) (h.fi.fin hn)
      · exact h.up
  split
  · unfold rvA
    split
    · exact h.up
    · unfold revF
      split
      · exact h.fl (endF_ms _ _) (h.fi.fin hn)
      · exact h.up
  split
  · exact h.sub c.id c.fl c.cs
  split
  · unfold hdA
    split
    · exact h.up
    · unfold heardF
      split
      · exact h.fl rfl ⟨h.fi.hd, h.fi.wt, h.fi.fr, hn, by have := h.fi.gs; show a.fl.gs.length ≤ _; omega⟩
      · exact h.up
  · unfold tkA tickF
    split
    · exact h.fl (endF_ms _ _) (h.fi.fin hn)
    · exact h.up
/-! ### what is told -/
end Go.Proofs.YtmdeajdaeihniaaGreat.X
/-
  Chapter 25: what else holds of a room, whatever is called: numbers of the floor in order, none waits twice; who hears and who sees, told in two ways: no program in sight, no condition.
-/
namespace Go.Proofs.YtmdeajdaeihniaaGreat.X
open Go Go.RowKit
set_option linter.unusedVariables false
set_option linter.unusedSimpArgs false
structure F2 (f : Fa) : Prop where
  so : (f.ms.map (·.1)).Pairwise (· < ·)
  wn : f.wt.Nodup
theorem insM_srt {w : Int} {m : Bool} : ∀ {l : List (Int × Bool)}, (l.map (·.1)).Pairwise (· < ·) → isM l w = false → ((insM w m l).map (·.1)).Pairwise (· < ·)
  | [], _, _ => by simp [insM]
  | x :: r, hn, hw => by
    have hw' : ¬ w ∈ (x :: r).map (·.1) := fun h => by rw [isM_mem.2 h] at hw; cases hw
    rw [List.map_cons, List.mem_cons, not_or] at hw'
    rw [List.map_cons, List.pairwise_cons] at hn
    unfold insM
    split
    · rename_i hlt
      rw [List.map_cons, List.map_cons, List.pairwise_cons]
      refine ⟨fun y hy => ?_, List.pairwise_cons.2 hn⟩
      rcases List.mem_cons.1 hy with rfl | hy
      · exact hlt
      · have := hn.1 y hy; omega
    · rename_i hlt
      rw [List.map_cons, List.pairwise_cons]
      refine ⟨fun y hy => ?_, insM_srt hn.2 ?_⟩
      · obtain ⟨e, he, rfl⟩ := List.mem_map.1 hy
        rcases insM_mem.1 he with rfl | he
        · have := hw'.1; dsimp only; omega
        · exact hn.1 _ (List.mem_map.2 ⟨e, he, rfl⟩)
      · cases hm : isM r w with
        | false => rfl
        | true => exact absurd (isM_mem.1 hm) hw'.2
theorem F2.fin {f : Fa} (h : F2 f) (now : Int) : F2 (endF f now) := by
  unfold endF
  cases hw : f.wt with
  | nil => exact ⟨h.so, List.nodup_nil⟩
  | cons w r =>
    have := h.wn
    rw [hw] at this
    exact ⟨h.so, (List.nodup_cons.1 this).2⟩
theorem F2.out {f : Fa} (h : F2 f) (w : Int) : F2 (outF f w) :=
  ⟨h.so.sublist (List.filter_sublist.map _), h.wn.sublist List.filter_sublist⟩
theorem F2.join {f : Fa} (h : F2 f) (w : Int) (m : Bool) : F2 (joinF f w m) := by
  unfold joinF
  split
  · rename_i he
    refine ⟨insM_srt h.so ?_, h.wn⟩
    unfold joinE at he
    cases hm : isM f.ms w with
    | false => rfl
    | true => rw [hm] at he; simp at he
  · exact h
theorem F2.leave {f : Fa} (h : F2 f) (w now : Int) : F2 (leaveF f w now) := by
  unfold leaveF
  split
  · split
    · exact (h.out w).fin now
    · exact h.out w
  · exact h
theorem F2.req {f : Fa} (h : F2 f) (w now : Int) : F2 (reqF f w now) := by
  unfold reqF
  split
  · rename_i he
    split
    · refine ⟨h.so, ?_⟩
      dsimp only
      refine List.nodup_append.2 ⟨h.wn, by simp, fun x hx y hy e => ?_⟩
      rw [List.mem_singleton] at hy
      subst hy; subst e
      unfold reqE at he
      rw [if_pos (.inr hx : holdsA f x = true ∨ x ∈ f.wt)] at he
      split at he <;> cases he
    · exact ⟨h.so, h.wn⟩
  · exact h
theorem F2.done {a : Ra} (h : F2 a.fl) (k : Int) (c : Ac) (now : Int) : F2 (doA k a c now).fl := by
  unfold doA
  split
  · unfold jnA
    split
    · exact h.join _ _
    · exact h
  split
  · unfold lvA
    split
    · exact h.leave _ _
    · exact h
  split
  · unfold rqA
    split
    · exact h
    · exact h.req _ _
  split
  · unfold rlA
    split
    · exact h
    · dsimp only
      unfold relF
      split
      · exact h.fin _
      · exact h
  split
  · unfold rvA
    split
    · exact h
    · dsimp only
      unfold revF
      split
      · exact h.fin _
      · exact h
  split
  · unfold sbA
    split <;> exact h
  split
  · unfold hdA
    split
    · exact h
    · dsimp only
      unfold heardF
      split
      · exact ⟨h.so, h.wn⟩
      · exact h
  · unfold tkA tickF
    dsimp only
    split
    · exact h.fin _
    · exact h
theorem nodup_le2 : ∀ {l m : List Int}, l.Nodup → (∀ x, x ∈ l → x ∈ m) → l.length ≤ m.length
  | [], m, _, _ => Nat.zero_le _
  | x :: r, m, hn, hs => by
    rw [List.nodup_cons] at hn
    have hx := hs x List.mem_cons_self
    have h1 := nodup_le2 (l := r) (m := m.erase x) hn.2 (fun y hy => (List.mem_erase_of_ne (fun e => hn.1 (by rw [← e]; exact hy))).2 (hs y (List.mem_cons_of_mem _ hy)))
    rw [List.length_erase_of_mem hx] at h1
    have := List.length_pos_of_mem hx
    rw [List.length_cons]; omega
/-- Nobody beyond the members waits, so few do. -/
theorem Inv.wlen {M : Int} {a : Ra} {i : Nat} (h : Inv M a i) (h2 : F2 a.fl) : a.fl.wt.length ≤ 32 := by
  have h1 := nodup_le2 h2.wn h.fi.wt
  rw [List.length_map] at h1
  have := h.ln
  have := h.mo
  omega
theorem Inv.len32 {M : Int} {a : Ra} {i : Nat} (h : Inv M a i) : a.ms.length ≤ 32 ∧ a.fl.ms.length ≤ 32 ∧ a.ws.length ≤ 32 := by
  have h1 := h.len
  have h2 := h.ln
  have h3 := h.mo
  have h4 : a.ws.length = a.ms.length := by have := congrArg List.length h.id; rwa [List.length_map, List.length_map] at this
  omega
theorem wgA_self {ws : List Wa} (hn : (ws.map Wa.id).Nodup) {w : Wa} (hw : w ∈ ws) : wgA ws w.id = w := by
  unfold wgA wfA
  induction ws with
  | nil => cases hw
  | cons x r ih =>
    rw [List.map_cons, List.nodup_cons] at hn
    rcases List.mem_cons.1 hw with rfl | hw
    · rw [List.find?_cons, beq_self_eq_true]; rfl
    · have hne : (x.id == w.id) = false := by
        rw [beq_eq_false_iff_ne]
        exact fun e => hn.1 (e ▸ List.mem_map_of_mem hw)
      rw [List.find?_cons, hne]
      exact ih hn.2 hw
theorem filt_map {ws : List Wa} (p : Int → Bool) (q : Wa → Bool) (h : ∀ w, w ∈ ws → p w.id = q w) : (ws.map Wa.id).filter p = (ws.filter q).map Wa.id := by
  rw [List.filter_map]
  congr 1
  exact List.filter_congr fun w hw => h w hw
/-- The audience, told in two ways. -/
theorem Inv.aud {M : Int} {a : Ra} {i : Nat} (h : Inv M a i) (he : Bool) (who : Int) : (a.ms.map Mb.id).filter (audP a.ws he who) = audL a.ws he who := by
  rw [← h.id]
  unfold audL
  refine filt_map _ _ fun w hw => ?_
  unfold audP
  rw [wgA_self (h.id ▸ h.nd) hw]
theorem ixOf_iff {l : List Int} {y : Int} : decide (0 ≤ ixOf l y) = decide (y ∈ l) := by
  by_cases h : y ∈ l
  · rw [decide_eq_true h, decide_eq_true (mem_ixOf h)]
  · rw [decide_eq_false h]
    exact decide_eq_false fun h2 => h (ixOf_mem h2)
/-- Who sees, told in two ways. -/
theorem Inv.vie {M : Int} {a : Ra} {i : Nat} (h : Inv M a i) (y : Int) : (a.ms.map Mb.id).filter (viewP a.ws y) = vieL a.ws y := by
  rw [← h.id]
  unfold vieL
  refine filt_map _ _ fun w hw => ?_
  unfold viewP
  rw [wgA_self (h.id ▸ h.nd) hw]
  exact ixOf_iff
/-- What somebody watches, told in two ways. -/
theorem wxF_wfA (ws : List Wx) (id : Int) : (wxF ws id).map Wx.a = wfA (ws.map Wx.a) id := by
  unfold wxF wfA
  rw [List.find?_map]
  rfl
theorem wxF_some (ws : List Wx) (id : Int) : (wxF ws id).isSome = (wfA (ws.map Wx.a) id).isSome := by rw [← wxF_wfA, Option.isSome_map]
theorem wxF_g (ws : List Wx) (id : Int) : ((wxF ws id).getD wx0).a.ct = (wgA (ws.map Wx.a) id).ct ∧ ((wxF ws id).getD wx0).a.cs = (wgA (ws.map Wx.a) id).cs := by
  unfold wgA
  rw [← wxF_wfA]
  cases wxF ws id <;> exact ⟨rfl, rfl⟩
theorem inv_newM (m q s : Int) (hm : 0 ≤ m ∧ m ≤ 32) : Inv m ⟨m, [], newFa q s, []⟩ 0 :=
  ⟨⟨rfl, hm.2⟩, rfl, List.nodup_nil, (fun z hz => by cases hz), (fun z => by simp [newFa, isM]), List.nodup_nil, ⟨(fun e => by cases e), (fun z hz => by cases hz), (fun _ => rfl), Int.le_refl _, Nat.le_refl _⟩, (fun w hw => by cases hw), by show ((0 : Nat) : Int) ≤ m; omega⟩
theorem f2_new (q s : Int) : F2 (newFa q s) := ⟨List.Pairwise.nil, List.nodup_nil⟩
end Go.Proofs.YtmdeajdaeihniaaGreat.X
