/-
  Rows of packets are compared, judged few, copied: walks of my own.
-/
import Derived.Test.YtohlaabclifbfaaA6
namespace Go.Proofs.Ytohlaabclifbfaa.X
open Go Go.RowKit
set_option linter.unusedVariables false
set_option linter.unusedSimpArgs false
/-- A row of packets, wherever it lies. -/
structure PbR (W : World) (L : List Blk) (p : Option Addr) (xs : List Pb) : Prop where
  rs : Rs W L p (xs.flatMap Pb.enc)
  bd : ∀ x, x ∈ xs → Rs W L x.p (ints .u8 x.q.bd)
  rg : ∀ x, x ∈ xs → x.q.Rg
  few : ∀ x, x ∈ xs → x.q.bd.length ≤ 1000000
theorem PbR.mono {W : World} {L L' : List Blk} {p : Option Addr} {xs : List Pb} (h : PbR W L p xs) (hm : ∀ z, z ∈ L → z ∈ L') : PbR W L' p xs := ⟨h.rs.mono hm, fun x hx => (h.bd x hx).mono hm, h.rg, h.few⟩
theorem PbR.over {W w : World} {L : List Blk} {p : Option Addr} {xs : List Pb} (h : PbR W L p xs) (hw : Hp W w L) : PbR w [] p xs := ⟨h.rs.over hw, fun x hx => (h.bd x hx).over hw, h.rg, h.few⟩
theorem PbR.nilL {W : World} {L : List Blk} {p : Option Addr} {xs : List Pb} (h : PbR W [] p xs) : PbR W L p xs := h.mono fun _ hq => by cases hq
theorem mem_bls {xs : List Pb} {x : Pb} (hx : x ∈ xs) {z : Blk} (hz : z ∈ x.l) : z ∈ bls xs := List.mem_flatMap.2 ⟨x, hx, hz⟩
/-- An owned row is a row. -/
theorem PbR.own {W : World} {R l : List Blk} {T : TypeId} {s : Option Addr} {k : Nat} {xs : List Pb} (hO : SlO 4 T (.slice s xs.length k) xs.length (xs.flatMap Pb.enc) l) (hok : ∀ x, x ∈ xs → x.Ok) (hrg : ∀ x, x ∈ xs → x.q.Rg) (hf : ∀ x, x ∈ xs → x.q.bd.length ≤ 1000000) : PbR W (l ++ (bls xs ++ R)) s xs :=
  ⟨hO.rs fun z hz => List.mem_append_left _ hz, fun x hx => SlO.rs (hok x hx) fun z hz => List.mem_append_right _ (List.mem_append_left _ (mem_bls hx hz)), hrg, hf⟩
theorem PbR.nil {W : World} {L : List Blk} {p : Option Addr} : PbR W L p [] := ⟨Rs.nil, (fun x h => by cases h), (fun x h => by cases h), (fun x h => by cases h)⟩
theorem xf_doc2 {W : World} {L : List Blk} (x : Pb) (h1 : Rs W L x.p (ints .u8 x.q.bd)) (b1 : x.q.bd.length ≤ 1000000000) :
    XF Try.prog W 48 #[.agg x.enc.toArray] L (fun v L' => ∃ y : Pb, v = .agg y.enc.toArray ∧ y.q = x.q ∧ y.Ok ∧ L' = y.l ++ L) :=
  (xf_doc x.q x.p x.c h1 b1).mono fun v L' ⟨p', c', l, hv, hO, hL⟩ => ⟨⟨x.q, p', c', l⟩, hv, rfl, hO, hL⟩
theorem xf_rsame2 {W : World} {L : List Blk} (x y : Pb) (r : Bool) (hr : decide (x.q = y.q) = r) (h1 : Rs W L x.p (ints .u8 x.q.bd)) (h2 : Rs W L y.p (ints .u8 y.q.bd)) (ha : x.q.Rg) (hb : y.q.Rg) (b1 : x.q.bd.length ≤ 1000000000) :
    XF Try.prog W 22 #[.agg x.enc.toArray, .agg y.enc.toArray] L (fun v L' => v = .bool r ∧ L' = L) := xf_rsame x.q y.q r hr x.p y.p x.c y.c h1 h2 ha hb b1
set_option maxHeartbeats 4000000 in
theorem xf_sameRs {W : World} {L : List Blk} (p p' : Option Addr) (n n' c c' : Nat) (xs ys : List Pb) (r : Bool) (hres : decide (xs.map Pb.q = ys.map Pb.q) = r) (hx : xs.length = n) (hy : ys.length = n') (hA : PbR W L p xs) (hB : PbR W L p' ys) (hn : n ≤ 1000000000) :
    XF Try.prog W 12 #[.slice p n c, .slice p' n' c'] L (fun v L' => v = .bool r ∧ L' = L) := by
  subst hres
  refine xf_enter (args := [_, _]) Try.func12 rfl Try.ntmps12 rfl ?_
  by_cases hnn : ¬ n = n'
  · focus
      refine xc_seq ?_
      refine xc_region ?_
      refine xo_rd (rd_assign rfl) rfl ?_
      refine xo_nil ?_
      refine xq_seq ?_
      refine xc_seq ?_
      refine xc_seq ?_
      refine xc_region ?_
      refine xo_rd (rd_move rfl) rfl ?_
      refine xo_rd (rd_len rfl) rfl ?_
      refine xo_rd (rd_move rfl) rfl ?_
      refine xo_rd (rd_len rfl) rfl ?_
      refine xo_rd (rd_neq rfl rfl) rfl ?_
      refine xo_nil ?_
      refine xq_seq ?_
      refine xc_ndec rfl (fun h1 => ?_) (fun h1 => (by exfalso; omega))
      refine xc_seq ?_
      refine xc_region ?_
      refine xo_rd (rd_assign rfl) rfl ?_
      refine xo_nil ?_
      refine xq_seq ?_
      refine xc_ret ?_
      refine xq_then_ret ?_
    refine xq_ret1 (.inl rfl) Try.results12 rfl ⟨congrArg Value.bool (decide_eq_false fun e => ?_).symm, rfl⟩
    have := congrArg List.length e
    simp only [List.length_map] at this
    omega
  focus
    refine xc_seq ?_
    refine xc_region ?_
    refine xo_rd (rd_assign rfl) rfl ?_
    refine xo_nil ?_
    refine xq_seq ?_
    refine xc_seq ?_
    refine xc_seq ?_
    refine xc_region ?_
    refine xo_rd (rd_move rfl) rfl ?_
    refine xo_rd (rd_len rfl) rfl ?_
    refine xo_rd (rd_move rfl) rfl ?_
    refine xo_rd (rd_len rfl) rfl ?_
    refine xo_rd (rd_neq rfl rfl) rfl ?_
    refine xo_nil ?_
    refine xq_seq ?_
    refine xc_ndec rfl (fun h1 => (by exfalso; omega)) (fun h1 => ?_)
    refine xc_skip ?_
    refine xq_seq ?_
    refine xc_seq ?_
    refine xc_seq ?_
    refine xc_region ?_
    refine xo_rd (rd_assign rfl) rfl ?_
    refine xo_nil ?_
    refine xq_seq ?_
    refine xc_block ?_
  refine xc_loopK (ι := Nat) (fun i => i ≤ n ∧ (xs.map Pb.q).take i = (ys.map Pb.q).take i) (fun i => n - i) (fun i => [(0, .slice p n c), (1, .slice p' n' c'), (5, .int .i64 i)]) 0 ⟨Nat.zero_le _, by simp⟩ (by repeat (first | exact keep_nil | refine keep_cons rfl ?_)) ?_
  rintro i ⟨hi, he⟩
  by_cases hin : i < n
  · obtain ⟨b, o, hp, hc1⟩ := hA.rs.rows Pb.len (by decide) (by omega)
    obtain ⟨b', o', hp', hc2⟩ := hB.rs.rows Pb.len (by decide) (by omega)
    subst hp hp'
    have hci := hc1 i (by omega)
    have hci' := hc2 i (by omega)
    have e1 : xs[i]? = some xs[i] := List.getElem?_eq_getElem (by omega)
    have e2 : ys[i]? = some ys[i] := List.getElem?_eq_getElem (by omega)
    have k1 := hA.bd xs[i] (List.getElem_mem _)
    have k2 := hB.bd ys[i] (List.getElem_mem _)
    have k3 := hA.rg xs[i] (List.getElem_mem _)
    have k4 := hB.rg ys[i] (List.getElem_mem _)
    have k5 := hA.few xs[i] (List.getElem_mem _)
    generalize xs[i] = x at *
    generalize ys[i] = y at *
    have hcI : ∀ L', (∀ z, z ∈ L → z ∈ L') → ∀ (j : Nat) (u : Value), x.enc[j]? = some u → Cl W L' b (o + (i : Int).toNat * 4 + j) u := fun L' h j u hj => (hci j u hj).mono h
    have hcJ : ∀ L', (∀ z, z ∈ L → z ∈ L') → ∀ (j : Nat) (u : Value), y.enc[j]? = some u → Cl W L' b' (o' + (i : Int).toNat * 4 + j) u := fun L' h j u hj => (hci' j u hj).mono h
    obtain ⟨sb, hsb⟩ : ∃ r, decide (x.q = y.q) = r := ⟨_, rfl⟩
    focus
      refine xc_seq ?_
      refine xc_seq ?_
      refine xc_region ?_
      refine xo_rd (rd_move rfl) rfl ?_
      refine xo_rd (rd_move rfl) rfl ?_
      refine xo_rd (rd_len rfl) rfl ?_
      refine xo_rd (rd_lss rfl rfl) rfl ?_
      refine xo_nil ?_
      refine xq_seq ?_
      refine xc_dec rfl (fun hq1 => ?_) (fun hq1 => (by exfalso; omega))
      refine xc_skip ?_
      refine xq_seq ?_
      refine xc_seq ?_
      refine xc_block ?_
      refine xc_seq ?_
      refine xc_drawM [0, 0, 3, 4, 8, 0, 0, 96, 128, 272, 512] [0, 0, 3, 4, 8, 0, 0, 96, 128, 272, 512] (L) (by kernel_rfl) (by kernel_rfl) (by kernel_rfl) ?_
      refine xm_take 0 (m' := 1) rfl (by kernel_rfl) (by first | exact Sb.refl | exact Sb.nil | (repeat (first | exact Sb.nil | exact Sb.refl | exact Sb.app0 | apply Sb.keep | apply Sb.keepApp | apply Sb.cons | apply Sb.app))) (rd_move rfl) rfl (by kernel_rfl) ?_
      refine xm_take 1 (m' := 3) rfl (by kernel_rfl) (by first | exact Sb.refl | exact Sb.nil | (repeat (first | exact Sb.nil | exact Sb.refl | exact Sb.app0 | apply Sb.keep | apply Sb.keepApp | apply Sb.cons | apply Sb.app))) (rd_move rfl) rfl (by kernel_rfl) ?_
      refine xm_take 2 (m' := 7) rfl (by kernel_rfl) (by first | exact Sb.refl | exact Sb.nil | (repeat (first | exact Sb.nil | exact Sb.refl | exact Sb.app0 | apply Sb.keep | apply Sb.keepApp | apply Sb.cons | apply Sb.app))) (rd_indexAddr rfl rfl (by omega) (by omega)) rfl (by kernel_rfl) ?_
      refine xm_take 3 (m' := 15) rfl (by kernel_rfl) (by first | exact Sb.refl | exact Sb.nil | (repeat (first | exact Sb.nil | exact Sb.refl | exact Sb.app0 | apply Sb.keep | apply Sb.keepApp | apply Sb.cons | apply Sb.app))) (rd_loadA (vs := x.enc) rfl rfl (hcI _ (by intro z hz; simp [hz]))) rfl (by kernel_rfl) ?_
      refine xm_take 5 (m' := 47) rfl (by kernel_rfl) (by first | exact Sb.refl | exact Sb.nil | (repeat (first | exact Sb.nil | exact Sb.refl | exact Sb.app0 | apply Sb.keep | apply Sb.keepApp | apply Sb.cons | apply Sb.app))) (rd_move rfl) rfl (by kernel_rfl) ?_
      refine xm_take 6 (m' := 111) rfl (by kernel_rfl) (by first | exact Sb.refl | exact Sb.nil | (repeat (first | exact Sb.nil | exact Sb.refl | exact Sb.app0 | apply Sb.keep | apply Sb.keepApp | apply Sb.cons | apply Sb.app))) (rd_move rfl) rfl (by kernel_rfl) ?_
      refine xm_take 7 (m' := 239) rfl (by kernel_rfl) (by first | exact Sb.refl | exact Sb.nil | (repeat (first | exact Sb.nil | exact Sb.refl | exact Sb.app0 | apply Sb.keep | apply Sb.keepApp | apply Sb.cons | apply Sb.app))) (rd_indexAddr rfl rfl (by omega) (by omega)) rfl (by kernel_rfl) ?_
      refine xm_take 8 (m' := 495) rfl (by kernel_rfl) (by first | exact Sb.refl | exact Sb.nil | (repeat (first | exact Sb.nil | exact Sb.refl | exact Sb.app0 | apply Sb.keep | apply Sb.keepApp | apply Sb.cons | apply Sb.app))) (rd_loadA (vs := y.enc) rfl rfl (hcJ _ (by intro z hz; simp [hz]))) rfl (by kernel_rfl) ?_
      refine xm_one 4 (m' := 511) rfl (by kernel_rfl) rfl (by kernel_rfl) (ef_call rfl (XF.mono (xf_doc2 x (k1.mono (by intro z hz; simp [hz])) (by omega)) ?_))
      rintro v L' ⟨z, rfl, hzq, hzo, rfl⟩
      refine ⟨(by first | exact Sb.refl | exact Sb.nil | (repeat (first | exact Sb.nil | exact Sb.refl | exact Sb.app0 | apply Sb.keep | apply Sb.keepApp | apply Sb.cons | apply Sb.app))), ?_⟩
      refine xm_one 9 (m' := 1023) rfl (by kernel_rfl) rfl (by kernel_rfl) (ef_call rfl (XF.mono (xf_rsame2 z y sb (by rw [hzq]; exact hsb) (SlO.rs hzo (fun w hw => List.mem_append_left _ hw)) (k2.mono (fun w hw => List.mem_append_right _ hw)) (by rw [hzq]; exact k3) k4 (by rw [hzq]; omega)) ?_))
      rintro v L' ⟨rfl, rfl⟩
      refine ⟨(by first | exact Sb.refl | exact Sb.nil | (repeat (first | exact Sb.nil | exact Sb.refl | exact Sb.app0 | apply Sb.keep | apply Sb.keepApp | apply Sb.cons | apply Sb.app))), ?_⟩
      refine xm_take 10 (m' := 2047) rfl (by kernel_rfl) (by first | exact Sb.refl | exact Sb.nil | (repeat (first | exact Sb.nil | exact Sb.refl | exact Sb.app0 | apply Sb.keep | apply Sb.keepApp | apply Sb.cons | apply Sb.app))) (rd_not rfl) rfl (by kernel_rfl) ?_
      refine xm_done (by kernel_rfl) ?_
      refine xq_seq ?_
      refine xc_cond rfl (fun hq2 => ?_) (fun hq2 => ?_)
      refine xc_seq ?_
      refine xc_region ?_
      refine xo_rd (rd_assign rfl) rfl ?_
      refine xo_nil ?_
      refine xq_seq ?_
      refine xc_ret ?_
      refine xq_block_ret ?_
      refine xq_then_ret ?_
      refine xq_then_ret ?_
      refine xq_block_ret ?_
      refine xq_then_ret ?_
      rotate_left
      refine xc_skip ?_
      refine xq_block ?_
      refine xq_seq ?_
      refine xc_region ?_
      refine xo_rd (rd_move rfl) rfl ?_
      refine xo_rd (rd_addn rfl rfl (by omega) (by omega)) rfl ?_
      refine xo_rd (rd_assign rfl) rfl ?_
      refine xo_nil ?_
      rotate_left
    · have hs0 : sb = false := by simpa using hq2
      rw [hs0] at hsb
      have hne := of_decide_eq_false hsb
      refine xq_sub (List.sublist_append_right _ _) (xq_ret1 (.inl rfl) Try.results12 rfl ⟨congrArg Value.bool (decide_eq_false fun e => hne ?_).symm, rfl⟩)
      have := congrArg (·[i]?) e
      simp only [List.getElem?_map, e1, e2, Option.map_some, Option.some.injEq] at this
      exact this
    · have hs0 : sb = true := by simpa using hq2
      rw [hs0] at hsb
      have hqe := of_decide_eq_true hsb
      refine xq_roundK rfl (i + 1) ⟨by omega, ?_⟩ (by omega) (List.sublist_append_right _ _) (by repeat (first | exact keep_nil | refine keep_cons rfl ?_))
      rw [List.take_add_one, List.take_add_one, he, List.getElem?_map, List.getElem?_map, e1, e2, Option.map_some, Option.map_some, hqe]
  · focus
      refine xc_seq ?_
      refine xc_seq ?_
      refine xc_region ?_
      refine xo_rd (rd_move rfl) rfl ?_
      refine xo_rd (rd_move rfl) rfl ?_
      refine xo_rd (rd_len rfl) rfl ?_
      refine xo_rd (rd_lss rfl rfl) rfl ?_
      refine xo_nil ?_
      refine xq_seq ?_
      refine xc_dec rfl (fun h1 => (by exfalso; omega)) (fun h1 => ?_)
      refine xc_exit ?_
      refine xq_then_exit ?_
      refine xq_then_exit ?_
      refine xq_block_hit ?_
      refine xq_seq ?_
      refine xc_seq ?_
      refine xc_region ?_
      refine xo_rd (rd_assign rfl) rfl ?_
      refine xo_nil ?_
      refine xq_seq ?_
      refine xc_ret ?_
    have hin' : i = n := by omega
    subst hin'
    refine xq_ret1 (.inl rfl) Try.results12 rfl ⟨congrArg Value.bool (decide_eq_true ?_).symm, rfl⟩
    rwa [List.take_of_length_le (by simp; omega), List.take_of_length_le (by simp; omega)] at he
theorem xf_few {W : World} {L : List Blk} (p : Option Addr) (n c : Nat) (xs : List Pb) (r : Bool) (hres : decide ((∀ x, x ∈ xs → x.q.bd.length ≤ 800) ∧ n ≤ 10) = r) (hx : xs.length = n) (hA : Rs W L p (xs.flatMap Pb.enc)) (hn : n ≤ 9223372036854775807) (hf : ∀ x, x ∈ xs → x.q.bd.length ≤ 9223372036854775807) :
    XF Try.prog W 15 #[.slice p n c] L (fun v L' => v = .bool r ∧ L' = L) := by
  subst hres
  refine xf_enter (args := [_]) Try.func15 rfl Try.ntmps15 rfl ?_
  focus
    refine xc_seq ?_
    refine xc_region ?_
    refine xo_rd (rd_assign rfl) rfl ?_
    refine xo_nil ?_
    refine xq_seq ?_
    refine xc_seq ?_
    refine xc_seq ?_
    refine xc_region ?_
    refine xo_rd (rd_assign rfl) rfl ?_
    refine xo_nil ?_
    refine xq_seq ?_
    refine xc_block ?_
  refine xc_loopK (ι := Nat) (fun i => i ≤ n ∧ ∀ x, x ∈ xs.take i → x.q.bd.length ≤ 800) (fun i => n - i) (fun i => [(0, .slice p n c), (3, .int .i64 i)]) 0 ⟨Nat.zero_le _, fun x h => by cases h⟩ (by repeat (first | exact keep_nil | refine keep_cons rfl ?_)) ?_
  rintro i ⟨hi, he⟩
  by_cases hin : i < n
  · obtain ⟨b, o, hp, hc1⟩ := hA.rows Pb.len (by decide) (by omega)
    subst hp
    have hci := hc1 i (by omega)
    have e1 : xs[i]? = some xs[i] := List.getElem?_eq_getElem (by omega)
    have hm : xs[i] ∈ xs := List.getElem_mem _
    have hfx := hf _ hm
    generalize xs[i] = x at *
    have hc2 : ∀ L', (∀ z, z ∈ L → z ∈ L') → Cl W L' b (o + (i : Int).toNat * 4 + 2) (.slice x.p x.q.bd.length x.c) := fun L' h => (hci 2 _ rfl).mono h
    focus
      refine xc_seq ?_
      refine xc_seq ?_
      refine xc_region ?_
      refine xo_rd (rd_move rfl) rfl ?_
      refine xo_rd (rd_move rfl) rfl ?_
      refine xo_rd (rd_len rfl) rfl ?_
      refine xo_rd (rd_lss rfl rfl) rfl ?_
      refine xo_nil ?_
      refine xq_seq ?_
      refine xc_dec rfl (fun hq1 => ?_) (fun hq1 => (by exfalso; omega))
      refine xc_skip ?_
      refine xq_seq ?_
      refine xc_seq ?_
      refine xc_block ?_
      refine xc_seq ?_
      refine xc_region ?_
      refine xo_rd (rd_move rfl) rfl ?_
      refine xo_rd (rd_move rfl) rfl ?_
      refine xo_rd (rd_indexAddr rfl rfl (by omega) (by omega)) rfl ?_
      refine xo_rd (rd_fieldAddr rfl) rfl ?_
      refine xo_rd (rd_load1 rfl (hc2 _ (by intro z hz; simp [hz]))) rfl ?_
      refine xo_rd (rd_len rfl) rfl ?_
      refine xo_rd (rd_gtr rfl rfl) rfl ?_
      refine xo_nil ?_
      refine xq_seq ?_
      refine xc_dec rfl (fun hq2 => ?_) (fun hq2 => ?_)
      refine xc_seq ?_
      refine xc_region ?_
      refine xo_rd (rd_assign rfl) rfl ?_
      refine xo_nil ?_
      refine xq_seq ?_
      refine xc_ret ?_
      refine xq_block_ret ?_
      refine xq_then_ret ?_
      refine xq_then_ret ?_
      refine xq_block_ret ?_
      refine xq_then_ret ?_
      rotate_left
      refine xc_skip ?_
      refine xq_block ?_
      refine xq_seq ?_
      refine xc_region ?_
      refine xo_rd (rd_move rfl) rfl ?_
      refine xo_rd (rd_addn rfl rfl (by omega) (by omega)) rfl ?_
      refine xo_rd (rd_assign rfl) rfl ?_
      refine xo_nil ?_
      rotate_left
    · exact xq_ret1 (.inl rfl) Try.results15 rfl ⟨congrArg Value.bool (decide_eq_false fun e => by have := e.1 x hm; omega).symm, rfl⟩
    · refine xq_roundK rfl (i + 1) ⟨by omega, ?_⟩ (by omega) (List.Sublist.refl _) (by repeat (first | exact keep_nil | refine keep_cons rfl ?_))
      rw [List.take_add_one, e1]
      intro z hz
      rcases List.mem_append.1 hz with h | h
      · exact he z h
      · rw [List.mem_singleton.1 h]; omega
  · focus
      refine xc_seq ?_
      refine xc_seq ?_
      refine xc_region ?_
      refine xo_rd (rd_move rfl) rfl ?_
      refine xo_rd (rd_move rfl) rfl ?_
      refine xo_rd (rd_len rfl) rfl ?_
      refine xo_rd (rd_lss rfl rfl) rfl ?_
      refine xo_nil ?_
      refine xq_seq ?_
      refine xc_dec rfl (fun h1 => (by exfalso; omega)) (fun h1 => ?_)
      refine xc_exit ?_
      refine xq_then_exit ?_
      refine xq_then_exit ?_
      refine xq_block_hit ?_
      refine xq_seq ?_
      refine xc_seq ?_
      refine xc_region ?_
      refine xo_rd (rd_move rfl) rfl ?_
      refine xo_rd (rd_len rfl) rfl ?_
      refine xo_rd (rd_leq rfl rfl) rfl ?_
      refine xo_rd (rd_assign rfl) rfl ?_
      refine xo_nil ?_
      refine xq_seq ?_
      refine xc_ret ?_
    have hin' : i = n := by omega
    subst hin'
    rw [List.take_of_length_le (by omega)] at he
    refine xq_ret1 (.inl rfl) Try.results15 rfl ⟨congrArg Value.bool ?_, rfl⟩
    rw [decide_eq_decide]
    exact ⟨fun h => ⟨he, by omega⟩, fun h => by have := h.2; omega⟩
structure RtS where
  i : Nat
  ys : List Pb
  s : Option Addr
  k : Nat
  l : List Blk
set_option maxHeartbeats 4000000 in
theorem xf_rtcps {W : World} {L : List Blk} (p : Option Addr) (n c : Nat) (xs : List Pb) (hx : xs.length = n) (hA : PbR W L p xs) (hn : n ≤ 1000000) :
    XF Try.prog W 17 #[.slice p n c] L (fun v L' => ∃ ys s k l, v = .slice s ys.length k ∧ ys.map Pb.q = xs.map Pb.q ∧ (∀ y, y ∈ ys → y.Ok) ∧ SlO 4 46 (.slice s ys.length k) ys.length (ys.flatMap Pb.enc) l ∧ L' = l ++ (bls ys ++ L)) := by
  refine xf_enter (args := [_]) Try.func17 rfl Try.ntmps17 rfl ?_
  focus
    refine xc_seq ?_
    refine xc_region ?_
    refine xo_rd (rd_assign rfl) rfl ?_
    refine xo_nil ?_
    refine xq_seq ?_
    refine xc_seq ?_
    refine xc_region ?_
    refine xo_rd (rd_assign rfl) rfl ?_
    refine xo_nil ?_
    refine xq_seq ?_
    refine xc_seq ?_
    refine xc_seq ?_
    refine xc_region ?_
    refine xo_rd (rd_assign rfl) rfl ?_
    refine xo_nil ?_
    refine xq_seq ?_
    refine xc_block ?_
  refine xc_loopI (ι := RtS) (fun z => z.i ≤ n ∧ z.ys.map Pb.q = (xs.map Pb.q).take z.i ∧ (∀ y, y ∈ z.ys → y.Ok) ∧ SlO 4 46 (.slice z.s z.ys.length z.k) z.ys.length (z.ys.flatMap Pb.enc) z.l) (fun z => n - z.i) (fun z => z.l ++ (bls z.ys ++ L)) (fun z => [(0, .slice p n c), (3, .slice z.s z.ys.length z.k), (4, .int .i64 z.i)]) ⟨0, [], none, 0, []⟩ ⟨Nat.zero_le _, by simp, (fun x h => by cases h), SlO.nil⟩ rfl (by repeat (first | exact keep_nil | refine keep_cons rfl ?_)) ?_
  rintro ⟨i, ys, s, k, l⟩ ⟨hi, he, hok, hsl⟩
  dsimp only at hi he hok hsl ⊢
  have hyl : ys.length ≤ n := by have := congrArg List.length he; simp at this; omega
  by_cases hin : i < n
  · obtain ⟨b, o, hp, hc1⟩ := hA.rs.rows Pb.len (by decide) (by omega)
    subst hp
    have hci := hc1 i (by omega)
    have e1 : xs[i]? = some xs[i] := List.getElem?_eq_getElem (by omega)
    have k1 := hA.bd xs[i] (List.getElem_mem _)
    have k5 := hA.few xs[i] (List.getElem_mem _)
    generalize xs[i] = x at *
    have hcI : ∀ L', (∀ z, z ∈ L → z ∈ L') → ∀ (j : Nat) (u : Value), x.enc[j]? = some u → Cl W L' b (o + (i : Int).toNat * 4 + j) u := fun L' h j u hj => (hci j u hj).mono h
    focus
      refine xc_seq ?_
      refine xc_seq ?_
      refine xc_region ?_
      refine xo_rd (rd_move rfl) rfl ?_
      refine xo_rd (rd_move rfl) rfl ?_
      refine xo_rd (rd_len rfl) rfl ?_
      refine xo_rd (rd_lss rfl rfl) rfl ?_
      refine xo_nil ?_
      refine xq_seq ?_
      refine xc_dec rfl (fun hq1 => ?_) (fun hq1 => (by exfalso; omega))
      refine xc_skip ?_
      refine xq_seq ?_
      refine xc_seq ?_
      refine xc_block ?_
      refine xc_region ?_
      refine xo_rd (rd_move rfl) rfl ?_
      refine xo_rd (rd_move rfl) rfl ?_
      refine xo_rd (rd_move rfl) rfl ?_
      refine xo_rd (rd_indexAddr rfl rfl (by omega) (by omega)) rfl ?_
      refine xo_rd (rd_loadA (vs := x.enc) rfl rfl (hcI _ (by intro z hz; simp [hz]))) rfl ?_
      refine xo_ef rfl (ef_call rfl (XF.mono (xf_doc2 x (k1.mono (by intro z hz; simp [hz])) (by omega)) ?_))
      rintro v L' ⟨y, rfl, hyq, hyo, rfl⟩
      refine xo_perm (perm_mv y.l l (bls ys) L) ?_
      refine xo_ef rfl (ef_sliceA (vs := y.enc) rfl rfl (by rw [Pb.len]; decide) (by rw [Pb.len]; decide) fun r17 => ?_)
      refine xo_ef rfl (ef_appendS [_] (bls ys ++ (y.l ++ L)) l (news := y.enc) rfl rfl hsl rfl (Rs.fresh (List.Mem.head _)) rfl rfl (by decide) (by omega) (by omega) fun s' k' l' hO' hk' => ?_)
      refine xo_rd (rd_assign rfl) rfl ?_
      refine xo_nil ?_
      refine xq_block ?_
      refine xq_seq ?_
      refine xc_region ?_
      refine xo_rd (rd_move rfl) rfl ?_
      refine xo_rd (rd_addn rfl rfl (by omega) (by omega)) rfl ?_
      refine xo_rd (rd_assign rfl) rfl ?_
      refine xo_nil ?_
    have hl : (ys ++ [y]).length = ys.length + 1 := by simp
    refine xq_sub (List.sublist_append_right [_] _) (xq_roundI (⟨i + 1, ys ++ [y], s', k', l'⟩ : RtS) ⟨by dsimp only; omega, ?_, ?_, ?_⟩ (by dsimp only; omega) ?_ ?_)
    · dsimp only
      rw [List.map_append, he, List.take_add_one, List.getElem?_map, e1, List.map_singleton, hyq]; rfl
    · intro z hz
      rcases List.mem_append.1 hz with h | h
      · exact hok z h
      · rw [List.mem_singleton.1 h]; exact hyo
    · dsimp only
      rw [hl, List.flatMap_append, List.flatMap_singleton]; exact hO'
    · dsimp only
      rw [bls_snoc, List.append_assoc]
    · dsimp only
      rw [hl]
      exact (by repeat (first | exact keep_nil | refine keep_cons rfl ?_))
  · focus
      refine xc_seq ?_
      refine xc_seq ?_
      refine xc_region ?_
      refine xo_rd (rd_move rfl) rfl ?_
      refine xo_rd (rd_move rfl) rfl ?_
      refine xo_rd (rd_len rfl) rfl ?_
      refine xo_rd (rd_lss rfl rfl) rfl ?_
      refine xo_nil ?_
      refine xq_seq ?_
      refine xc_dec rfl (fun h1 => (by exfalso; omega)) (fun h1 => ?_)
      refine xc_exit ?_
      refine xq_then_exit ?_
      refine xq_then_exit ?_
      refine xq_block_hit ?_
      refine xq_seq ?_
      refine xc_seq ?_
      refine xc_region ?_
      refine xo_rd (rd_move rfl) rfl ?_
      refine xo_rd (rd_assign rfl) rfl ?_
      refine xo_nil ?_
      refine xq_seq ?_
      refine xc_ret ?_
    have hin' : i = n := by omega
    subst hin'
    rw [List.take_of_length_le (by simp; omega)] at he
    exact xq_ret1 (.inl rfl) Try.results17 rfl ⟨ys, s, k, l, rfl, he, hok, hsl, rfl⟩
end Go.Proofs.Ytohlaabclifbfaa.X
