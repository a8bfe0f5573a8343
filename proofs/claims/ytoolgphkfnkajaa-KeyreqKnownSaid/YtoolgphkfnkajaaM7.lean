/-
  Texts of my own, put together: walks and laws for this seat. No condition.
-/
import Derived.Test.YtoolgphkfnkajaaM6
/-
  Chapter 23: the reference: something else is known of a source: a walk of my own.
-/
namespace Go.Proofs.Ytoolgphkfnkajaa.X
open Go Go.RowKit
set_option linter.unusedVariables false
set_option linter.unusedSimpArgs false
theorem put_at {s : Sr} : ∀ {A B : List Sr}, (∀ a, a ∈ A → a.id < s.id) → (∀ b, b ∈ B → s.id < b.id) → putS s (A ++ B) = A ++ s :: B
  | [], [], _, _ => rfl
  | [], b :: B, _, h => by
    show putS s (b :: B) = s :: b :: B
    unfold putS
    rw [if_pos (h b List.mem_cons_self)]
  | a :: A, B, h1, h2 => by
    show putS s (a :: (A ++ B)) = a :: (A ++ s :: B)
    have := h1 a List.mem_cons_self
    unfold putS
    rw [if_neg (by omega), if_neg (by omega), put_at (fun x hx => h1 x (List.mem_cons_of_mem _ hx)) h2]
theorem filt_gt {s : Sr} {l : List Sr} (h : ∀ y, y ∈ l → s.id < y.id) : (l.filter fun y => !decide (y.id = s.id)) = l := by
  rw [List.filter_eq_self]
  intro y hy
  have := h y hy
  simp; omega
theorem put_filter {s : Sr} : ∀ {l : List Sr}, (l.map Sr.id).Pairwise (· < ·) → putS s (l.filter fun y => !decide (y.id = s.id)) = putS s l
  | [], _ => rfl
  | x :: r, hp => by
    rw [List.map_cons, List.pairwise_cons] at hp
    have hr : ∀ y, y ∈ r → x.id < y.id := fun y hy => hp.1 _ (List.mem_map_of_mem hy)
    by_cases h1 : s.id < x.id
    · rw [filt_gt (l := x :: r) (fun y hy => by
        rcases List.mem_cons.1 hy with rfl | hy
        · exact h1
        · have := hr y hy; omega)]
    · by_cases h2 : s.id = x.id
      · have hf : ((x :: r).filter fun y => !decide (y.id = s.id)) = r := by
          rw [List.filter_cons_of_neg (by simp [h2]), filt_gt (fun y hy => by have := hr y hy; omega)]
        rw [hf]
        have h3 : putS s (x :: r) = s :: r := by
          show (if s.id < x.id then s :: x :: r else if s.id = x.id then s :: r else x :: putS s r) = _
          rw [if_neg h1, if_pos h2]
        rw [h3]
        exact put_at (A := []) (fun a h => by cases h) (fun y hy => by have := hr y hy; omega)
      · rw [List.filter_cons_of_pos (by simp; omega)]
        show (if s.id < x.id then s :: x :: (r.filter fun y => !decide (y.id = s.id)) else if s.id = x.id then s :: (r.filter fun y => !decide (y.id = s.id)) else x :: putS s (r.filter fun y => !decide (y.id = s.id))) = (if s.id < x.id then s :: x :: r else if s.id = x.id then s :: r else x :: putS s r)
        rw [if_neg h1, if_neg h2, if_neg h1, if_neg h2, put_filter hp.2]
theorem fl_set (e : Rx) : ∀ (l : List Rx) (i : Nat), i < l.length → (l.flatMap Rx.enc).take (i * 3) ++ e.enc ++ (l.flatMap Rx.enc).drop ((i + 1) * 3) = (l.set i e).flatMap Rx.enc
  | [], i, h => by simp at h
  | x :: r, 0, _ => by
    rw [List.flatMap_cons, List.set_cons_zero, List.flatMap_cons, Nat.zero_mul, List.take_zero, List.nil_append, Nat.zero_add, Nat.one_mul, List.drop_left' (Rx.len x)]
  | x :: r, i + 1, h => by
    rw [List.flatMap_cons, List.set_cons_succ, List.flatMap_cons, ← fl_set e r i (by simpa using h)]
    have h1 : List.take ((i + 1) * 3) (x.enc ++ r.flatMap Rx.enc) = x.enc ++ List.take (i * 3) (r.flatMap Rx.enc) := by
      rw [show (i + 1) * 3 = x.enc.length + i * 3 by rw [Rx.len]; omega, List.take_length_add_append]
    have h2 : List.drop ((i + 1 + 1) * 3) (x.enc ++ r.flatMap Rx.enc) = List.drop ((i + 1) * 3) (r.flatMap Rx.enc) := by
      rw [show (i + 1 + 1) * 3 = x.enc.length + (i + 1) * 3 by rw [Rx.len]; omega, List.drop_length_add_append]
    rw [h1, h2]
    simp only [List.append_assoc]
theorem snoc_cases {α : Type} (l : List α) : l = [] ∨ ∃ m a, l = m ++ [a] := by
  rcases List.eq_nil_or_concat l with h | ⟨m, a, h⟩
  · exact .inl h
  · exact .inr ⟨m, a, by rw [h, List.concat_eq_append]⟩
theorem at_mid (A B : List Rx) (a u : Rx) : (A ++ [a] ++ u :: B)[A.length]? = some a ∧ (A ++ [a] ++ u :: B)[A.length + 1]? = some u := by
  constructor
  · simp
  · rw [List.getElem?_append_right (by simp)]; simp
theorem swap_mid (A B : List Rx) (a u : Rx) : ((A ++ [a] ++ u :: B).set A.length u).set (A.length + 1) a = A ++ u :: (a :: B) := by
  simp [List.set_append]
/-- Where what is put stands. -/
structure PuS where
  A : List Rx
  B : List Rx
  l : List Blk
set_option maxHeartbeats 3200000 in
theorem xr_put {W : World} {L : List Blk} (L0 : List Blk) (hs : ∀ z, z ∈ L0 → z ∈ L) (x : Rz) (hx : x.At W L0) (u : Rx) (hu : Rs W L0 u.p (ints .u64 u.ask)) (hul : u.ask.length ≤ 1000) (hso : (x.s.map Sr.id).Pairwise (· < ·)) (hl : x.l.length < 1000) :
    XF Try.prog W 44 #[.agg x.enc.toArray, .agg u.enc.toArray] L (fun v L' => ∃ y N, v = .agg (Rz.enc y).toArray ∧ y.w = x.w ∧ y.s = putS u.s x.s ∧ y.At W (N ++ L0) ∧ L' = N ++ L) := by
  have hdl := dropX_le x.l u.id
  have hput : putS u.s x.s = putS u.s ((dropX x.l u.id).map Rx.s) := by
    rw [← put_filter hso]
    congr 1
    unfold Rz.s dropX
    rw [List.filter_map]; rfl
  have hdm : ∀ y, y ∈ dropX x.l u.id → y ∈ x.l ∧ y.id ≠ u.id := fun y hy => by
    have := List.mem_filter.1 hy
    exact ⟨this.1, by simpa using this.2⟩
  have hds : ((dropX x.l u.id).map Rx.id).Pairwise (· < ·) := by
    have h1 : (x.l.map Rx.id).Pairwise (· < ·) := by unfold Rz.s at hso; rw [List.map_map] at hso; exact hso
    exact h1.sublist (List.filter_sublist.map _)
  have hdr := fun L' (h : ∀ z, z ∈ L → z ∈ L') => xr_Drop (W := W) (L := L') x (hx.mono fun z hz => h z (hs z hz)) u.id
  generalize dropX x.l u.id = D at *
  refine xf_enter (args := [_, _]) Try.func44 rfl Try.ntmps44 rfl ?_
  focus
    refine xc_seq ?_
    refine xc_region ?_
    refine xo_ef rfl (ef_box rfl fun r2 => ?_)
    refine xo_ef rfl (ef_box rfl fun r3 => ?_)
    refine xo_ef rfl (ef_alloc fun r4 => ?_)
    refine xo_nil ?_
    refine xq_seq ?_
    refine xc_seq ?_
    refine xc_region ?_
    refine xo_rd (rd_loadB rfl Kn.o2 (by rfl)) rfl ?_
    refine xo_rd (rd_fieldAddr rfl) rfl ?_
    refine xo_rd (rd_load1 rfl (Cl.o1 rfl)) rfl ?_
    refine xo_ef rfl (ef_call rfl (XF.mono (hdr _ (by intro z hz; simp [hz])) ?_))
    rintro v L' ⟨q, k, lb, rfl, hO, rfl⟩
    refine xo_seg [_, _, _] lb _ ?_
    refine xo_rd (rd_field1 rfl rfl) rfl ?_
    refine xo_rd (rd_assign rfl) rfl ?_
    refine xo_nil ?_
    refine xq_seq ?_
    refine xc_seq ?_
    refine xc_region ?_
    refine xo_rd (rd_assign rfl) rfl ?_
    refine xo_nil ?_
    refine xq_seq ?_
  focus
    refine xc_seq ?_
    refine xc_region ?_
    refine xo_rd (rd_move rfl) rfl ?_
    refine xo_rd (rd_move rfl) rfl ?_
    refine xo_ef rfl (ef_appendQS [_, _, _] (lb ++ L) [] (news := D.flatMap Rx.enc) rfl rfl SlQ.nil rfl (hO.rs (by intro z hz; simp [hz])) (flat_length _ Rx.len _) (rx_one _) (by decide) (by omega) (by omega) fun q1 k1 l1 hO1 hk1 => ?_)
    refine xo_rd (rd_assign rfl) rfl ?_
    refine xo_nil ?_
    refine xq_seq ?_
  rw [List.nil_append] at hO1
  rw [Nat.zero_add D.length] at hO1 hk1 ⊢
  focus
    refine xc_seq ?_
    refine xc_region ?_
    refine xo_rd (rd_move rfl) rfl ?_
    refine xo_rd (rd_loadB rfl Kn.o1 (by rfl)) rfl ?_
    refine xo_ef rfl (ef_sliceA (vs := u.enc) rfl rfl (by rw [Rx.len]; decide) (by rw [Rx.len]; decide) fun r18 => ?_)
    refine xo_ef rfl (ef_appendQS [_, _, _, _] (lb ++ L) l1 (news := u.enc) rfl rfl hO1 rfl (Rs.fresh (List.Mem.head _)) rfl rfl (by decide) (by omega) (by omega) fun q2 k2 l2 hO2 hk2 => ?_)
    refine xo_rd (rd_assign rfl) rfl ?_
    refine xo_nil ?_
    refine xq_seq ?_
    refine xc_seq ?_
    refine xc_seq ?_
    refine xc_region ?_
    refine xo_rd (rd_move rfl) rfl ?_
    refine xo_rd (rd_len rfl) rfl ?_
    refine xo_rd (rd_subn rfl rfl (by omega) (by omega)) rfl ?_
    refine xo_rd (rd_assign rfl) rfl ?_
    refine xo_nil ?_
    refine xq_seq ?_
    refine xc_block ?_
  have hO3 : SlQ 3 76 (.slice q2 (D.length + 1) k2) (D.length + 1) ((D ++ u :: []).flatMap Rx.enc) l2 := by rw [List.flatMap_append, List.flatMap_singleton]; exact hO2
  refine xc_loopI (ι := PuS) (fun s => s.A ++ s.B = D ∧ (∀ b, b ∈ s.B → u.id < b.id) ∧ SlQ 3 76 (.slice q2 (D.length + 1) k2) (D.length + 1) ((s.A ++ u :: s.B).flatMap Rx.enc) s.l) (fun s => s.A.length) (fun s => (r18, Obj.cells u.enc.toArray 76 (0, 0)) :: (r4, Obj.cells (rzE 0 none 0 0).toArray 57 (0, 0)) :: (r3, Obj.cells u.enc.toArray 76 (0, 0)) :: (r2, Obj.cells x.enc.toArray 57 (0, 0)) :: (s.l ++ (lb ++ L))) (fun s => [(2, .pointer (some ⟨r2, 0, none⟩)), (4, .pointer (some ⟨r4, 0, none⟩)), (6, .slice q2 (D.length + 1) k2), (7, .int .i64 s.A.length)]) ⟨D, [], l2⟩ ⟨List.append_nil _, (fun b h => by cases h), hO3⟩ rfl (by dsimp only; rw [show (D.length : Int) = ((D.length + 1 : Nat) : Int) - 1 by omega]; exact (by repeat (first | exact keep_nil | refine keep_cons rfl ?_))) ?_
  clear hO1 hO2 hO3
  rintro ⟨A, B, l3⟩ ⟨hAB, hB, hO3⟩
  dsimp only at hAB hB hO3 ⊢
  have hll : (A ++ u :: B).length = D.length + 1 := by rw [← hAB]; simp; omega
  have hrs : Rs W ((r18, Obj.cells u.enc.toArray 76 (0, 0)) :: (r4, Obj.cells (rzE 0 none 0 0).toArray 57 (0, 0)) :: (r3, Obj.cells u.enc.toArray 76 (0, 0)) :: (r2, Obj.cells x.enc.toArray 57 (0, 0)) :: (l3 ++ (lb ++ L))) q2 ((A ++ u :: B).flatMap Rx.enc) := hO3.rs (by intro z hz; simp [hz])
  obtain ⟨b, o, hp, hc⟩ := hrs.rows Rx.len (by decide) (by omega)
  have hend : (∀ a, a ∈ A → a.id < u.id) → ∃ y N, Value.agg (rzE x.w q2 (D.length + 1) k2).toArray = .agg (Rz.enc y).toArray ∧ y.w = x.w ∧ y.s = putS u.s x.s ∧ y.At W (N ++ L0) ∧ l3 ++ (lb ++ L) = N ++ L := fun hA => by
    refine ⟨⟨x.w, A ++ u :: B, q2, k2⟩, l3 ++ lb, by rw [← hll]; rfl, rfl, ?_, ⟨hO3.rs fun z hz => List.mem_append_left _ (List.mem_append_left _ hz), ?_, by rw [hll]; omega, ?_⟩, by rw [List.append_assoc]⟩
    · rw [hput, ← hAB, List.map_append, put_at]
      · unfold Rz.s; rw [List.map_append, List.map_cons]
      · intro a ha; obtain ⟨v, hv, rfl⟩ := List.mem_map.1 ha; exact hA v hv
      · intro a ha; obtain ⟨v, hv, rfl⟩ := List.mem_map.1 ha; exact hB v hv
    · intro v hv
      have hvm : v = u ∨ v ∈ D := by
        rw [← hAB]
        rcases List.mem_append.1 hv with h | h
        · exact .inr (List.mem_append_left _ h)
        · rcases List.mem_cons.1 h with h | h
          · exact .inl h
          · exact .inr (List.mem_append_right _ h)
      rcases hvm with rfl | hvm
      · exact hu.mono fun z hz => List.mem_append_right _ hz
      · exact (hx.a v (hdm v hvm).1).mono fun z hz => List.mem_append_right _ hz
    · intro v hv
      have hvm : v = u ∨ v ∈ D := by
        rw [← hAB]
        rcases List.mem_append.1 hv with h | h
        · exact .inr (List.mem_append_left _ h)
        · rcases List.mem_cons.1 h with h | h
          · exact .inl h
          · exact .inr (List.mem_append_right _ h)
      rcases hvm with rfl | hvm
      · exact hul
      · exact hx.al v (hdm v hvm).1
  rcases snoc_cases A with hA0 | ⟨A', a, hA1⟩
  · subst hA0
    obtain ⟨y, N, hy1, hy2, hy3, hy4, hy5⟩ := hend (fun a h => by cases h)
    focus
      refine xc_seq ?_
      refine xc_seq ?_
      refine xc_drawML [0, 1, 2, 4, 4, 20, 44, 68, 132, 4, 4, 1540, 2052, 4100, 8452, 16388] [0, 1, 2, 4, 4, 20, 44, 68, 132, 4, 4, 1540, 2052, 4100, 8452, 16388] (by kernel_rfl) (by kernel_rfl) (by kernel_rfl) ?_
      refine xm_take 0 (m' := 1) rfl (by kernel_rfl) Sb.a (rd_move rfl) rfl (by kernel_rfl) ?_
      refine xm_take 1 (m' := 3) rfl (by kernel_rfl) Sb.a (rd_gtr rfl rfl) rfl (by kernel_rfl) ?_
      refine xm_take 2 (m' := 7) rfl (by kernel_rfl) Sb.a (rd_move rfl) rfl (by kernel_rfl) ?_
      refine xm_gskip 3 (m' := 15) rfl (by kernel_rfl) Sb.a rfl rfl rfl rfl (by kernel_rfl) ?_
      refine xm_gskip 4 (m' := 31) rfl (by kernel_rfl) Sb.a rfl rfl rfl rfl (by kernel_rfl) ?_
      refine xm_gskip 5 (m' := 63) rfl (by kernel_rfl) Sb.a rfl rfl rfl rfl (by kernel_rfl) ?_
      refine xm_gskip 6 (m' := 127) rfl (by kernel_rfl) Sb.a rfl rfl rfl rfl (by kernel_rfl) ?_
      refine xm_gskip 7 (m' := 255) rfl (by kernel_rfl) Sb.a rfl rfl rfl rfl (by kernel_rfl) ?_
      refine xm_gskip 8 (m' := 511) rfl (by kernel_rfl) Sb.a rfl rfl rfl rfl (by kernel_rfl) ?_
      refine xm_gskip 9 (m' := 1023) rfl (by kernel_rfl) Sb.a rfl rfl rfl rfl (by kernel_rfl) ?_
      refine xm_gskip 10 (m' := 2047) rfl (by kernel_rfl) Sb.a rfl rfl rfl rfl (by kernel_rfl) ?_
      refine xm_gskip 11 (m' := 4095) rfl (by kernel_rfl) Sb.a rfl rfl rfl rfl (by kernel_rfl) ?_
      refine xm_gskip 12 (m' := 8191) rfl (by kernel_rfl) Sb.a rfl rfl rfl rfl (by kernel_rfl) ?_
      refine xm_gskip 13 (m' := 16383) rfl (by kernel_rfl) Sb.a rfl rfl rfl rfl (by kernel_rfl) ?_
      refine xm_gskip 14 (m' := 32767) rfl (by kernel_rfl) Sb.a rfl rfl rfl rfl (by kernel_rfl) ?_
      refine xm_take 15 (m' := 65535) rfl (by kernel_rfl) Sb.a (rd_pickf rfl rfl) rfl (by kernel_rfl) ?_
      refine xm_done (by kernel_rfl) ?_
      refine xq_seq ?_
      refine xc_condf rfl ?_
      refine xc_exit ?_
      refine xq_then_exit ?_
      refine xq_then_exit ?_
      refine xq_block_hit ?_
      refine xq_seq ?_
      refine xc_seq ?_
      refine xc_region ?_
      refine xo_rd (rd_fieldAddr rfl) rfl ?_
      refine xo_rd (rd_load1 rfl (Cl.o3 rfl)) rfl ?_
      refine xo_rd (rd_move rfl) rfl ?_
      refine xo_rd (rd_cast (v' := .agg (rzE x.w q2 (D.length + 1) k2).toArray) (rd_build (T := 57) rfl rfl rfl) (by kernel_rfl)) rfl ?_
      refine xo_ef rfl (ef_storeB [_] _ rfl rfl (by first | rfl | assumption) rfl rfl rfl ?_)
      refine xo_nil ?_
      refine xq_seq ?_
      refine xc_ret ?_
    all_goals exact xq_retB (.inl rfl) Try.results44 rfl Kn.o1 rfl (List.sublist_append_right [_, _, _, _] _) ⟨y, N, hy1, hy2, hy3, hy4, hy5⟩
  subst hA1
  have hm := at_mid A' B a u
  obtain ⟨h1, h1e⟩ := List.getElem?_eq_some_iff.1 hm.1
  obtain ⟨h2, h2e⟩ := List.getElem?_eq_some_iff.1 hm.2
  have hca := hc _ h1
  have hcu := hc _ h2
  rw [h1e] at hca
  rw [h2e] at hcu
  subst hp
  rw [List.length_append, List.length_singleton] at *
  have hll2 : A'.length + 1 < D.length + 1 := by have h9 := congrArg List.length hAB; simp only [List.length_append, List.length_singleton] at h9; omega
  have haD : a ∈ D := by rw [← hAB]; simp
  have hau := (hdm a haD).2
  have hca2 : ∀ j v, a.enc[j]? = some v → Cl W ((r18, Obj.cells u.enc.toArray 76 (0, 0)) :: (r4, Obj.cells (rzE 0 none 0 0).toArray 57 (0, 0)) :: (r3, Obj.cells u.enc.toArray 76 (0, 0)) :: (r2, Obj.cells x.enc.toArray 57 (0, 0)) :: (l3 ++ (lb ++ L))) b (o + (((A'.length + 1 : Nat) : Int) - 1).toNat * 3 + j) v := fun j v hj => by
    rw [show (((A'.length + 1 : Nat) : Int) - 1).toNat = A'.length by omega]; exact hca j v hj
  have hcu2 : ∀ j v, u.enc[j]? = some v → Cl W ((r18, Obj.cells u.enc.toArray 76 (0, 0)) :: (r4, Obj.cells (rzE 0 none 0 0).toArray 57 (0, 0)) :: (r3, Obj.cells u.enc.toArray 76 (0, 0)) :: (r2, Obj.cells x.enc.toArray 57 (0, 0)) :: (l3 ++ (lb ++ L))) b (o + ((A'.length + 1 : Nat) : Int).toNat * 3 + j) v := fun j v hj => hcu j v hj
  by_cases hlt : u.id < a.id
  · skip
    focus
      refine xc_seq ?_
      refine xc_seq ?_
      refine xc_drawM [0, 1, 2, 4, 4, 20, 44, 68, 132, 4, 4, 1540, 2052, 4100, 8452, 16388] [0, 1, 2, 4, 4, 20, 44, 68, 132, 4, 4, 1540, 2052, 4100, 8452, 16388] ((r18, Obj.cells u.enc.toArray 76 (0, 0)) :: (r4, Obj.cells (rzE 0 none 0 0).toArray 57 (0, 0)) :: (r3, Obj.cells u.enc.toArray 76 (0, 0)) :: (r2, Obj.cells x.enc.toArray 57 (0, 0)) :: (l3 ++ (lb ++ L))) (by kernel_rfl) (by kernel_rfl) (by kernel_rfl) ?_
      refine xm_take 0 (m' := 1) rfl (by kernel_rfl) Sb.a (rd_move rfl) rfl (by kernel_rfl) ?_
      refine xm_take 1 (m' := 3) rfl (by kernel_rfl) Sb.a (rd_gtr rfl rfl) rfl (by kernel_rfl) ?_
      refine xm_take 2 (m' := 7) rfl (by kernel_rfl) Sb.a (rd_move rfl) rfl (by kernel_rfl) ?_
      refine xm_dec 25 rfl (fun h1 => ?_) (fun h1 => (by exfalso; omega))
      refine xm_gtake 3 (m' := 15) rfl (by kernel_rfl) Sb.a rfl rfl (rd_move rfl) rfl (by kernel_rfl) ?_
      refine xm_gtake 4 (m' := 31) rfl (by kernel_rfl) Sb.a rfl rfl (rd_move rfl) rfl (by kernel_rfl) ?_
      refine xm_gtake 5 (m' := 63) rfl (by kernel_rfl) Sb.a rfl rfl (rd_subn rfl rfl (by omega) (by omega)) rfl (by kernel_rfl) ?_
      refine xm_gtake 6 (m' := 127) rfl (by kernel_rfl) Sb.a rfl rfl (rd_indexAddr rfl rfl (by omega) (by omega)) rfl (by kernel_rfl) ?_
      refine xm_gtake 7 (m' := 255) rfl (by kernel_rfl) Sb.a rfl rfl (rd_fieldAddr rfl) rfl (by kernel_rfl) ?_
      refine xm_gtake 8 (m' := 511) rfl (by kernel_rfl) Sb.a rfl rfl (rd_load1 rfl (hca2 0 _ rfl)) rfl (by kernel_rfl) ?_
      refine xm_gtake 9 (m' := 1023) rfl (by kernel_rfl) Sb.a rfl rfl (rd_move rfl) rfl (by kernel_rfl) ?_
      refine xm_gtake 10 (m' := 2047) rfl (by kernel_rfl) Sb.a rfl rfl (rd_move rfl) rfl (by kernel_rfl) ?_
      refine xm_gtake 11 (m' := 4095) rfl (by kernel_rfl) Sb.a rfl rfl (rd_indexAddr rfl rfl (by omega) (by omega)) rfl (by kernel_rfl) ?_
      refine xm_gtake 12 (m' := 8191) rfl (by kernel_rfl) Sb.a rfl rfl (rd_fieldAddr rfl) rfl (by kernel_rfl) ?_
      refine xm_gtake 13 (m' := 16383) rfl (by kernel_rfl) Sb.a rfl rfl (rd_load1 rfl (hcu2 0 _ rfl)) rfl (by kernel_rfl) ?_
      refine xm_gtake 14 (m' := 32767) rfl (by kernel_rfl) Sb.a rfl rfl (rd_gtr rfl rfl) rfl (by kernel_rfl) ?_
      refine xm_take 15 (m' := 65535) rfl (by kernel_rfl) Sb.a (rd_pickt rfl rfl) rfl (by kernel_rfl) ?_
      refine xm_done (by kernel_rfl) ?_
      refine xq_seq ?_
      refine xc_dec rfl (fun h2 => ?_) (fun h2 => (by exfalso; omega))
      refine xc_skip ?_
      refine xq_seq ?_
    focus
      refine xc_seq ?_
      refine xc_block ?_
      refine xc_drawM [0, 0, 2, 0, 0, 0, 0, 96, 128, 0, 0, 1024, 2560, 4096, 8679, 25063, 65535, 131071] [0, 0, 2, 0, 0, 0, 0, 96, 128, 0, 0, 1024, 2560, 4096, 8679, 25063, 65535, 131071] [] (by kernel_rfl) (by kernel_rfl) (by kernel_rfl) ?_
      refine xm_take 0 (m' := 1) rfl (by kernel_rfl) Sb.a (rd_move rfl) rfl (by kernel_rfl) ?_
      refine xm_take 1 (m' := 3) rfl (by kernel_rfl) Sb.a (rd_move rfl) rfl (by kernel_rfl) ?_
      refine xm_take 2 (m' := 7) rfl (by kernel_rfl) Sb.a (rd_subn rfl rfl (by omega) (by omega)) rfl (by kernel_rfl) ?_
      refine xm_take 3 (m' := 15) rfl (by kernel_rfl) Sb.a (rd_move rfl) rfl (by kernel_rfl) ?_
      refine xm_take 4 (m' := 31) rfl (by kernel_rfl) Sb.a (rd_move rfl) rfl (by kernel_rfl) ?_
      refine xm_take 5 (m' := 63) rfl (by kernel_rfl) Sb.a (rd_move rfl) rfl (by kernel_rfl) ?_
      refine xm_take 6 (m' := 127) rfl (by kernel_rfl) Sb.a (rd_move rfl) rfl (by kernel_rfl) ?_
      refine xm_take 7 (m' := 255) rfl (by kernel_rfl) Sb.a (rd_indexAddr rfl rfl (by omega) (by omega)) rfl (by kernel_rfl) ?_
      refine xm_take 9 (m' := 767) rfl (by kernel_rfl) Sb.a (rd_move rfl) rfl (by kernel_rfl) ?_
      refine xm_take 10 (m' := 1791) rfl (by kernel_rfl) Sb.a (rd_move rfl) rfl (by kernel_rfl) ?_
      refine xm_take 11 (m' := 3839) rfl (by kernel_rfl) Sb.a (rd_subn rfl rfl (by omega) (by omega)) rfl (by kernel_rfl) ?_
      refine xm_take 12 (m' := 7935) rfl (by kernel_rfl) Sb.a (rd_indexAddr rfl rfl (by omega) (by omega)) rfl (by kernel_rfl) ?_
      refine xm_two 8 13 (mi := 8191) (mk := 16127) rfl rfl (by kernel_rfl) rfl rfl (by kernel_rfl) (by kernel_rfl) (ef_rd (rd_loadA (vs := u.enc) rfl rfl hcu2) ⟨Sb.a, ?_⟩) (ef_rd (rd_loadA (vs := a.enc) rfl rfl hca2) ⟨Sb.a, ?_⟩)
      refine xm_one 13 (m' := 16383) rfl (by kernel_rfl) rfl (by kernel_rfl) (ef_rd (rd_loadA (vs := a.enc) rfl rfl hca2) ?_)
      refine ⟨Sb.a, ?_⟩
      refine xm_take 14 (m' := 32767) rfl (by kernel_rfl) Sb.a (rd_indexAddr rfl rfl (by omega) (by omega)) rfl (by kernel_rfl) ?_
      refine xm_one 15 (m' := 65535) rfl (by kernel_rfl) rfl (by kernel_rfl) (ef_storeQ (v := .bool true) [_, _, _, _] (lb ++ L) hO3 rfl rfl (by omega) (vs := u.enc) rfl rfl rfl rfl fun l4 hO4 => ?_)
      refine ⟨Sb.a, ?_⟩
      refine xm_take 16 (m' := 131071) rfl (by kernel_rfl) Sb.a (rd_indexAddr rfl rfl (by omega) (by omega)) rfl (by kernel_rfl) ?_
      refine xm_one 17 (m' := 262143) rfl (by kernel_rfl) rfl (by kernel_rfl) (ef_storeQ (v := .bool true) [_, _, _, _] (lb ++ L) hO4 rfl rfl (by omega) (vs := a.enc) rfl rfl rfl rfl fun l5 hO5 => ?_)
      refine ⟨Sb.a, ?_⟩
      refine xm_done (by kernel_rfl) ?_
      refine xq_block ?_
      refine xq_seq ?_
      refine xc_region ?_
      refine xo_rd (rd_move rfl) rfl ?_
      refine xo_rd (rd_subn rfl rfl (by omega) (by omega)) rfl ?_
      refine xo_rd (rd_assign rfl) rfl ?_
      refine xo_nil ?_
      rotate_left
      refine xm_one 8 (m' := 16383) rfl (by kernel_rfl) rfl (by kernel_rfl) (ef_rd (rd_loadA (vs := u.enc) rfl rfl hcu2) ?_)
      refine ⟨Sb.a, ?_⟩
      refine xm_take 14 (m' := 32767) rfl (by kernel_rfl) Sb.a (rd_indexAddr rfl rfl (by omega) (by omega)) rfl (by kernel_rfl) ?_
      refine xm_one 15 (m' := 65535) rfl (by kernel_rfl) rfl (by kernel_rfl) (ef_storeQ (v := .bool true) [_, _, _, _] (lb ++ L) hO3 rfl rfl (by omega) (vs := u.enc) rfl rfl rfl rfl fun l4 hO4 => ?_)
      refine ⟨Sb.a, ?_⟩
      refine xm_take 16 (m' := 131071) rfl (by kernel_rfl) Sb.a (rd_indexAddr rfl rfl (by omega) (by omega)) rfl (by kernel_rfl) ?_
      refine xm_one 17 (m' := 262143) rfl (by kernel_rfl) rfl (by kernel_rfl) (ef_storeQ (v := .bool true) [_, _, _, _] (lb ++ L) hO4 rfl rfl (by omega) (vs := a.enc) rfl rfl rfl rfl fun l5 hO5 => ?_)
      refine ⟨Sb.a, ?_⟩
      refine xm_done (by kernel_rfl) ?_
      refine xq_block ?_
      refine xq_seq ?_
      refine xc_region ?_
      refine xo_rd (rd_move rfl) rfl ?_
      refine xo_rd (rd_subn rfl rfl (by omega) (by omega)) rfl ?_
      refine xo_rd (rd_assign rfl) rfl ?_
      refine xo_nil ?_
      rotate_left
    all_goals
      rw [show (((A'.length + 1 : Nat) : Int) - 1).toNat = A'.length by omega, show ((A'.length + 1 : Nat) : Int).toNat = A'.length + 1 by omega, fl_set u _ _ (by omega), fl_set a _ _ (by rw [List.length_set]; omega), swap_mid] at hO5
      refine xq_roundI (⟨A', a :: B, l5⟩ : PuS) ⟨by rw [← hAB]; simp, ?_, hO5⟩ (by dsimp only; omega) rfl (by dsimp only; rw [show (A'.length : Int) = ((A'.length + 1 : Nat) : Int) - 1 by omega]; exact (by repeat (first | exact keep_nil | refine keep_cons rfl ?_)))
      intro v hv
      rcases List.mem_cons.1 hv with h | h
      · rw [h]; exact hlt
      · exact hB v h
  · have hlt2 : a.id < u.id := by omega
    have hall : ∀ v, v ∈ A' ++ [a] → v.id < u.id := fun v hv => by
      rcases List.mem_append.1 hv with h | h
      · have h3 := hds
        rw [← hAB, List.append_assoc, List.map_append, List.pairwise_append] at h3
        have := h3.2.2 v.id (List.mem_map_of_mem h) a.id (by simp)
        omega
      · rw [List.mem_singleton.1 h]; exact hlt2
    obtain ⟨y, N, hy1, hy2, hy3, hy4, hy5⟩ := hend hall
    focus
      refine xc_seq ?_
      refine xc_seq ?_
      refine xc_drawM [0, 1, 2, 4, 4, 20, 44, 68, 132, 4, 4, 1540, 2052, 4100, 8452, 16388] [0, 1, 2, 4, 4, 20, 44, 68, 132, 4, 4, 1540, 2052, 4100, 8452, 16388] ((r18, Obj.cells u.enc.toArray 76 (0, 0)) :: (r4, Obj.cells (rzE 0 none 0 0).toArray 57 (0, 0)) :: (r3, Obj.cells u.enc.toArray 76 (0, 0)) :: (r2, Obj.cells x.enc.toArray 57 (0, 0)) :: (l3 ++ (lb ++ L))) (by kernel_rfl) (by kernel_rfl) (by kernel_rfl) ?_
      refine xm_take 0 (m' := 1) rfl (by kernel_rfl) Sb.a (rd_move rfl) rfl (by kernel_rfl) ?_
      refine xm_take 1 (m' := 3) rfl (by kernel_rfl) Sb.a (rd_gtr rfl rfl) rfl (by kernel_rfl) ?_
      refine xm_take 2 (m' := 7) rfl (by kernel_rfl) Sb.a (rd_move rfl) rfl (by kernel_rfl) ?_
      refine xm_dec 25 rfl (fun h1 => ?_) (fun h1 => (by exfalso; omega))
      refine xm_gtake 3 (m' := 15) rfl (by kernel_rfl) Sb.a rfl rfl (rd_move rfl) rfl (by kernel_rfl) ?_
      refine xm_gtake 4 (m' := 31) rfl (by kernel_rfl) Sb.a rfl rfl (rd_move rfl) rfl (by kernel_rfl) ?_
      refine xm_gtake 5 (m' := 63) rfl (by kernel_rfl) Sb.a rfl rfl (rd_subn rfl rfl (by omega) (by omega)) rfl (by kernel_rfl) ?_
      refine xm_gtake 6 (m' := 127) rfl (by kernel_rfl) Sb.a rfl rfl (rd_indexAddr rfl rfl (by omega) (by omega)) rfl (by kernel_rfl) ?_
      refine xm_gtake 7 (m' := 255) rfl (by kernel_rfl) Sb.a rfl rfl (rd_fieldAddr rfl) rfl (by kernel_rfl) ?_
      refine xm_gtake 8 (m' := 511) rfl (by kernel_rfl) Sb.a rfl rfl (rd_load1 rfl (hca2 0 _ rfl)) rfl (by kernel_rfl) ?_
      refine xm_gtake 9 (m' := 1023) rfl (by kernel_rfl) Sb.a rfl rfl (rd_move rfl) rfl (by kernel_rfl) ?_
      refine xm_gtake 10 (m' := 2047) rfl (by kernel_rfl) Sb.a rfl rfl (rd_move rfl) rfl (by kernel_rfl) ?_
      refine xm_gtake 11 (m' := 4095) rfl (by kernel_rfl) Sb.a rfl rfl (rd_indexAddr rfl rfl (by omega) (by omega)) rfl (by kernel_rfl) ?_
      refine xm_gtake 12 (m' := 8191) rfl (by kernel_rfl) Sb.a rfl rfl (rd_fieldAddr rfl) rfl (by kernel_rfl) ?_
      refine xm_gtake 13 (m' := 16383) rfl (by kernel_rfl) Sb.a rfl rfl (rd_load1 rfl (hcu2 0 _ rfl)) rfl (by kernel_rfl) ?_
      refine xm_gtake 14 (m' := 32767) rfl (by kernel_rfl) Sb.a rfl rfl (rd_gtr rfl rfl) rfl (by kernel_rfl) ?_
      refine xm_take 15 (m' := 65535) rfl (by kernel_rfl) Sb.a (rd_pickt rfl rfl) rfl (by kernel_rfl) ?_
      refine xm_done (by kernel_rfl) ?_
      refine xq_seq ?_
      refine xc_dec rfl (fun h2 => (by exfalso; omega)) (fun h2 => ?_)
      refine xc_exit ?_
      refine xq_then_exit ?_
      refine xq_then_exit ?_
      refine xq_block_hit ?_
      refine xq_seq ?_
      refine xc_seq ?_
      refine xc_region ?_
      refine xo_rd (rd_fieldAddr rfl) rfl ?_
      refine xo_rd (rd_load1 rfl (Cl.o3 rfl)) rfl ?_
      refine xo_rd (rd_move rfl) rfl ?_
      refine xo_rd (rd_cast (v' := .agg (rzE x.w (some ⟨b, o, none⟩) (D.length + 1) k2).toArray) (rd_build (T := 57) rfl rfl rfl) (by kernel_rfl)) rfl ?_
      refine xo_ef rfl (ef_storeB [_] _ rfl rfl (by first | rfl | assumption) rfl rfl rfl ?_)
      refine xo_nil ?_
      refine xq_seq ?_
      refine xc_ret ?_
    all_goals exact xq_retB (.inl rfl) Try.results44 rfl Kn.o1 rfl (List.sublist_append_right [_, _, _, _] _) ⟨y, N, hy1, hy2, hy3, hy4, hy5⟩
end Go.Proofs.Ytoolgphkfnkajaa.X
/-
  Chapter 23: the reference: new, who asks, who is answered: walks of my own.
-/
namespace Go.Proofs.Ytoolgphkfnkajaa.X
open Go Go.RowKit
set_option linter.unusedVariables false
set_option linter.unusedSimpArgs false
def newRz (w : Int) : Rz := ⟨w, [], none, 0⟩
theorem newRz_at {W : World} (w : Int) : (newRz w).At W [] := ⟨Rs.nil, (fun u h => by cases h), Nat.zero_le _, (fun u h => by cases h)⟩
theorem xr_New {W : World} {L : List Blk} (w : Int) (hw : 1 ≤ w) : XF Try.prog W 23 #[.int .u64 w] L (fun v L' => v = .tuple #[.agg (newRz w).enc.toArray, .int .i64 0] ∧ L' = L) := by
  refine xf_enter (args := [_]) Try.func23 rfl Try.ntmps23 rfl ?_
  focus
    refine xc_seq ?_
    refine xc_region ?_
    refine xo_ef rfl (ef_alloc fun r2 => ?_)
    refine xo_rd (rd_assign rfl) rfl ?_
    refine xo_nil ?_
    refine xq_seq ?_
    refine xc_seq ?_
    refine xc_seq ?_
    refine xc_region ?_
    refine xo_rd (rd_move rfl) rfl ?_
    refine xo_rd (rd_lss rfl rfl) rfl ?_
    refine xo_nil ?_
    refine xq_seq ?_
    refine xc_dec rfl (fun h1 => (by exfalso; omega)) (fun h1 => ?_)
    refine xc_skip ?_
    refine xq_seq ?_
    refine xc_seq ?_
    refine xc_region ?_
    refine xo_rd (rd_move rfl) rfl ?_
    refine xo_rd (rd_cast (v' := .agg (newRz w).enc.toArray) (rd_build (T := 57) rfl rfl rfl) (by kernel_rfl)) rfl ?_
    refine xo_ef rfl (ef_storeB [] _ rfl rfl (by first | rfl | assumption) rfl rfl rfl ?_)
    refine xo_rd (rd_assign rfl) rfl ?_
    refine xo_nil ?_
    refine xq_seq ?_
    refine xc_ret ?_
  exact xq_retB2 (.inl rfl) Try.results23 rfl rfl Kn.o0 rfl (List.sublist_append_right [_] _) ⟨rfl, rfl⟩
theorem xr_NewE {W : World} {L : List Blk} : XF Try.prog W 23 #[.int .u64 0] L (fun v L' => v = .tuple #[.agg (newRz 0).enc.toArray, .int .i64 2] ∧ L' = L) := by
  refine xf_enter (args := [_]) Try.func23 rfl Try.ntmps23 rfl ?_
  focus
    refine xc_seq ?_
    refine xc_region ?_
    refine xo_ef rfl (ef_alloc fun r2 => ?_)
    refine xo_rd (rd_assign rfl) rfl ?_
    refine xo_nil ?_
    refine xq_seq ?_
    refine xc_seq ?_
    refine xc_seq ?_
    refine xc_region ?_
    refine xo_rd (rd_move rfl) rfl ?_
    refine xo_rd (rd_lss rfl rfl) rfl ?_
    refine xo_nil ?_
    refine xq_seq ?_
    refine xc_condt rfl ?_
    refine xc_seq ?_
    refine xc_region ?_
    refine xo_rd (rd_cast (v' := .agg (newRz 0).enc.toArray) (rd_build (T := 57) rfl rfl rfl) (by kernel_rfl)) rfl ?_
    refine xo_ef rfl (ef_storeB [] _ rfl rfl (by first | rfl | assumption) rfl rfl rfl ?_)
    refine xo_rd (rd_assign rfl) rfl ?_
    refine xo_nil ?_
    refine xq_seq ?_
    refine xc_ret ?_
    refine xq_then_ret ?_
  exact xq_retB2 (.inl rfl) Try.results23 rfl rfl Kn.o0 rfl (List.sublist_append_right [_] _) ⟨rfl, rfl⟩
theorem lastA_snoc (l : List Int) (x : Int) : lastA (l ++ [x]) = x := by
  unfold lastA
  rw [getD_snoc, List.length_append, List.length_singleton, if_pos (by omega)]
theorem getS_las {l : List Sr} (h : ∀ s, s ∈ l → 0 ≤ s.last) (id : Int) : 0 ≤ (getS l id).last := by
  cases hf : srF l id with
  | none => rw [getS_none hf]; exact Int.le_refl 0
  | some s => rw [getS_some hf]; exact h s (srF_id hf).1
set_option maxHeartbeats 3200000 in
theorem xr_Ask {W : World} {L : List Blk} (L0 : List Blk) (hs : ∀ z, z ∈ L0 → z ∈ L) (x : Rz) (hx : x.At W L0) (id now : Int) (hso : (x.s.map Sr.id).Pairwise (· < ·)) (hl : x.l.length < 1000) (hal : ∀ u, u ∈ x.l → u.ask.length < 1000) (hla : ∀ s, s ∈ x.s → 0 ≤ s.last) (hn : 0 ≤ now ∧ now ≤ 18446744073709551615) (b : Bool) (hb : mayB x.w (getS x.s id) now = b) :
    XF Try.prog W 35 #[.agg x.enc.toArray, .int .u32 id, .int .u64 now] L (fun v L' => ∃ y N, v = .tuple #[.agg (Rz.enc y).toArray, .bool b] ∧ y.w = x.w ∧ y.s = askL x.w x.s id now ∧ y.At W (N ++ L0) ∧ L' = N ++ L) := by
  have hof := fun L' (h : ∀ z, z ∈ L → z ∈ L') => xr_Of (W := W) (L := L') x (hx.mono fun z hz => h z (hs z hz)) id
  obtain ⟨ho1, ho2⟩ := ofX_at hx id
  have hos := ofX_s x.l id
  have hoi := ofX_id x.l id
  have hoal : (ofX x.l id).ask.length < 1000 := by
    unfold ofX
    cases h : rxF x.l id with
    | none => show 0 < 1000; decide
    | some u => exact hal u (List.mem_of_find?_eq_some h)
  have hgl := getS_las hla id
  have hask : askL x.w x.s id now = putS (askS x.w now (getS x.s id)) x.s := rfl
  rw [hask]
  unfold askS
  rw [hb]
  change _ = getS x.s id at hos
  rw [← hos] at hb hgl ⊢
  generalize ofX x.l id = u at *
  have hmay := fun L' (h : ∀ z, z ∈ L → z ∈ L') => xr_may (W := W) (L := L') x.enc x.w rfl rfl rfl u (ho1.mono fun z hz => h z (hs z hz)) ho2 hgl now hn b hb
  have hu : ∀ (L' : List Blk), (∀ z, z ∈ L → z ∈ L') → Rs W L' u.p (ints .u64 u.ask) := fun L' h => ho1.mono fun z hz => h z (hs z hz)
  refine xf_enter (args := [_, _, _]) Try.func35 rfl Try.ntmps35 rfl ?_
  cases b with
  | false =>
    simp only [Bool.false_eq_true, if_false]
    have hpu := fun L' (h : ∀ z, z ∈ L → z ∈ L') => xr_put (W := W) (L := L') L0 (fun z hz => h z (hs z hz)) x hx ⟨u.id, u.ask, true, u.p, u.c⟩ ho1 ho2 hso hl
    focus
      refine xc_seq ?_
      refine xc_region ?_
      refine xo_ef rfl (ef_box rfl fun r3 => ?_)
      refine xo_ef rfl (ef_alloc fun r6 => ?_)
      refine xo_rd (rd_assign rfl) rfl ?_
      refine xo_nil ?_
      refine xq_seq ?_
      refine xc_seq ?_
      refine xc_region ?_
      refine xo_rd (rd_loadB rfl Kn.o1 (by rfl)) rfl ?_
      refine xo_rd (rd_move rfl) rfl ?_
      refine xo_ef rfl (ef_call rfl (XF.mono (hof _ (by intro z hz; simp [hz])) ?_))
      rintro v L' ⟨rfl, rfl⟩
      refine xo_ef rfl (ef_alloc fun r8 => ?_)
      refine xo_ef rfl (ef_storeB [] _ rfl rfl (by first | rfl | assumption) rfl rfl rfl ?_)
      refine xo_nil ?_
      refine xq_seq ?_
      refine xc_seq ?_
      refine xc_seq ?_
      refine xc_region ?_
      refine xo_rd (rd_loadB rfl Kn.o2 (by rfl)) rfl ?_
      refine xo_rd (rd_loadB rfl Kn.o0 (by rfl)) rfl ?_
      refine xo_rd (rd_move rfl) rfl ?_
      refine xo_ef rfl (ef_call rfl (XF.mono (hmay _ (by intro z hz; simp [hz])) ?_))
      rintro v L' ⟨rfl, rfl⟩
      refine xo_rd (rd_not rfl) rfl ?_
      refine xo_nil ?_
      refine xq_seq ?_
      refine xc_condt rfl ?_
      refine xc_seq ?_
      refine xc_region ?_
      refine xo_rd (rd_fieldAddr rfl) rfl ?_
      refine xo_ef rfl (ef_store1 [] _ rfl rfl (by first | rfl | assumption) rfl rfl rfl ?_)
      refine xo_nil ?_
      refine xq_seq ?_
      refine xc_seq ?_
      refine xc_region ?_
      refine xo_rd (rd_loadB rfl Kn.o2 (by rfl)) rfl ?_
      refine xo_rd (rd_loadB rfl Kn.o0 (by rfl)) rfl ?_
      refine xo_ef rfl (ef_call rfl (XF.mono (hpu _ (by intro z hz; simp [hz])) ?_))
      rintro v L' ⟨y, N, rfl, hyw, hys, hyat, rfl⟩
      refine xo_seg [_, _, _] N _ ?_
      refine xo_ef rfl (ef_storeB [_] _ rfl rfl (by first | rfl | assumption) rfl rfl rfl ?_)
      refine xo_rd (rd_assign rfl) rfl ?_
      refine xo_nil ?_
      refine xq_seq ?_
      refine xc_ret ?_
      refine xq_then_ret ?_
    exact xq_retB2 (.inl rfl) Try.results35 rfl rfl Kn.o1 rfl (List.sublist_append_right [_, _, _] _) ⟨y, N, rfl, hyw, hys, hyat, rfl⟩
  | true =>
    simp only [if_true]
    focus
      refine xc_seq ?_
      refine xc_region ?_
      refine xo_ef rfl (ef_box rfl fun r3 => ?_)
      refine xo_ef rfl (ef_alloc fun r6 => ?_)
      refine xo_rd (rd_assign rfl) rfl ?_
      refine xo_nil ?_
      refine xq_seq ?_
      refine xc_seq ?_
      refine xc_region ?_
      refine xo_rd (rd_loadB rfl Kn.o1 (by rfl)) rfl ?_
      refine xo_rd (rd_move rfl) rfl ?_
      refine xo_ef rfl (ef_call rfl (XF.mono (hof _ (by intro z hz; simp [hz])) ?_))
      rintro v L' ⟨rfl, rfl⟩
      refine xo_ef rfl (ef_alloc fun r8 => ?_)
      refine xo_ef rfl (ef_storeB [] _ rfl rfl (by first | rfl | assumption) rfl rfl rfl ?_)
      refine xo_nil ?_
      refine xq_seq ?_
      refine xc_seq ?_
      refine xc_seq ?_
      refine xc_region ?_
      refine xo_rd (rd_loadB rfl Kn.o2 (by rfl)) rfl ?_
      refine xo_rd (rd_loadB rfl Kn.o0 (by rfl)) rfl ?_
      refine xo_rd (rd_move rfl) rfl ?_
      refine xo_ef rfl (ef_call rfl (XF.mono (hmay _ (by intro z hz; simp [hz])) ?_))
      rintro v L' ⟨rfl, rfl⟩
      refine xo_rd (rd_not rfl) rfl ?_
      refine xo_nil ?_
      refine xq_seq ?_
      refine xc_condf rfl ?_
      refine xc_skip ?_
      refine xq_seq ?_
      refine xc_seq ?_
      refine xc_region ?_
      refine xo_rd (rd_assign rfl) rfl ?_
      refine xo_nil ?_
      refine xq_seq ?_
      refine xc_seq ?_
      refine xc_region ?_
      refine xo_rd (rd_move rfl) rfl ?_
      refine xo_rd (rd_fieldAddr rfl) rfl ?_
      refine xo_rd (rd_load1 rfl (Cl.o0 rfl)) rfl ?_
      refine xo_ef rfl (ef_appendQS [_, _, _] L [] (news := ints .u64 u.ask) rfl rfl SlQ.nil rfl (hu _ (by intro z hz; simp [hz])) (by simp [ints]) (ints_one _ _) (by decide) (by omega) (by omega) fun q1 k1 l1 hO1 hk1 => ?_)
      refine xo_rd (rd_assign rfl) rfl ?_
      refine xo_nil ?_
      refine xq_seq ?_
    rw [List.nil_append] at hO1
    rw [Nat.zero_add u.ask.length] at hO1 hk1 ⊢
    have hpu := fun (L' : List Blk) (l2 : List Blk) (p : Option Addr) (k : Nat) (hO : SlQ 1 22 (.slice p (u.ask.length + 1) k) (u.ask.length + 1) (ints .u64 (u.ask ++ [now])) l2) (h : ∀ z, z ∈ l2 ++ L → z ∈ L') => xr_put (W := W) (L := L') (l2 ++ L0) (fun z hz => h z ((List.mem_append.1 hz).elim (fun h => List.mem_append_left _ h) (fun h => List.mem_append_right _ (hs z h)))) x (hx.mono fun z hz => List.mem_append_right _ hz) ⟨id, u.ask ++ [now], false, p, k⟩ (hO.rs fun z hz => List.mem_append_left _ hz) (by dsimp only; rw [List.length_append, List.length_singleton]; omega) hso hl
    have hpq0 := fun (L' : List Blk) (l2 : List Blk) (p : Option Addr) (k : Nat) (hO : SlQ 1 22 (.slice p (u.ask.length + 1) k) (u.ask.length + 1) (ints .u64 (u.ask ++ [now])) l2) (h : ∀ z, z ∈ l2 ++ L → z ∈ L') =>
      show XF Try.prog W 44 #[.agg x.enc.toArray, .agg (rxE id p (u.ask.length + 1) k false).toArray] L' (fun v L'' => ∃ y N, v = .agg (Rz.enc y).toArray ∧ y.w = x.w ∧ y.s = putS (Rx.mk id (u.ask ++ [now]) false p k).s x.s ∧ y.At W (N ++ (l2 ++ L0)) ∧ L'' = N ++ L') from by
        have := hpu L' l2 p k hO h
        rwa [show (Rx.mk id (u.ask ++ [now]) false p k).enc = rxE id p (u.ask.length + 1) k false by unfold Rx.enc; dsimp only; rw [List.length_append, List.length_singleton]] at this
    have hpq := fun (L' : List Blk) (l2 : List Blk) (p : Option Addr) (k : Nat) (hO : SlQ 1 22 (.slice p (u.ask.length + 1) k) (u.ask.length + 1) (ints .u64 (u.ask ++ [now])) l2) (h : ∀ z, z ∈ l2 ++ L → z ∈ L') => hpq0 L' l2 p k hO h
    have hkey : (Rx.mk id (u.ask ++ [now]) false none 0).s = ⟨u.s.id, now, u.s.sent + 1, 0⟩ := by
      unfold Rx.s
      dsimp only
      rw [lastA_snoc, List.length_append, List.length_singleton, hoi]; rfl
    focus
      refine xc_seq ?_
      refine xc_drawM [0, 0, 0, 0, 8, 20, 34, 97, 255, 511] [0, 0, 0, 0, 8, 20, 34, 97, 255, 511] [] (by kernel_rfl) (by kernel_rfl) (by kernel_rfl) ?_
      refine xm_take 1 (m' := 2) rfl (by kernel_rfl) Sb.a (rd_move rfl) rfl (by kernel_rfl) ?_
      refine xm_take 2 (m' := 6) rfl (by kernel_rfl) Sb.a (rd_move rfl) rfl (by kernel_rfl) ?_
      refine xm_take 3 (m' := 14) rfl (by kernel_rfl) Sb.a (rd_move rfl) rfl (by kernel_rfl) ?_
      refine xm_two 0 4 (mi := 15) (mk := 30) rfl rfl (by kernel_rfl) rfl rfl (by kernel_rfl) (by kernel_rfl) (ef_rd (rd_loadB rfl Kn.o2 (by rfl)) ⟨Sb.a, ?_⟩) (ef_buildL (T := 29) (len := 1) (s := 1) (cells := (ints .u64 [now]).toArray) rfl (by decide) (by decide) (by kernel_rfl) fun r30 => ⟨Sb.a, ?_⟩)
      refine xm_one 4 (m' := 31) rfl (by kernel_rfl) rfl (by kernel_rfl) (ef_buildL (T := 29) (len := 1) (s := 1) (cells := (ints .u64 [now]).toArray) rfl (by decide) (by decide) (by kernel_rfl) fun r30 => ?_)
      refine ⟨Sb.a, ?_⟩
      refine xm_one 5 (m' := 63) rfl (by kernel_rfl) rfl (by kernel_rfl) (ef_appendQS [_, _, _, _] L l1 (news := ints .u64 [now]) rfl rfl hO1 rfl (Rs.fresh (List.Mem.head _)) rfl rfl (by decide) (by omega) (by omega) fun q2 k2 l2 hO2 hk2 => ?_)
      refine ⟨Sb.a, ?_⟩
      refine xm_take 6 (m' := 127) rfl (by kernel_rfl) Sb.a (rd_cast (v' := .agg (rxE id q2 (u.ask.length + 1) k2 false).toArray) (rd_build (T := 76) rfl rfl rfl) (by kernel_rfl)) rfl (by kernel_rfl) ?_
      refine xm_one 7 (m' := 255) rfl (by kernel_rfl) rfl (by kernel_rfl) (ef_call rfl (XF.mono (hpq _ _ _ _ (by rw [ints_app]; exact hO2) (by intro z hz; simp [hz])) ?_))
      rintro v L' ⟨y, N, rfl, hyw, hys, hyat, rfl⟩
      refine xmx_seg [_, _, _, _] N _ ?_
      refine ⟨Sb.a, ?_⟩
      refine xm_one 8 (m' := 511) rfl (by kernel_rfl) rfl (by kernel_rfl) (ef_storeB [_, _] _ rfl rfl (by first | rfl | assumption) rfl rfl rfl ?_)
      refine ⟨Sb.a, ?_⟩
      refine xm_take 9 (m' := 1023) rfl (by kernel_rfl) Sb.a (rd_assign rfl) rfl (by kernel_rfl) ?_
      refine xm_done (by kernel_rfl) ?_
      refine xq_seq ?_
      refine xc_ret ?_
      rotate_left
      refine xm_two 0 5 (mi := 31) (mk := 62) rfl rfl (by kernel_rfl) rfl rfl (by kernel_rfl) (by kernel_rfl) (ef_rd (rd_loadB rfl Kn.o3 (by rfl)) ⟨Sb.a, ?_⟩) (ef_appendQS [_, _, _, _] L l1 (news := ints .u64 [now]) rfl rfl hO1 rfl (Rs.fresh (List.Mem.head _)) rfl rfl (by decide) (by omega) (by omega) fun q2 k2 l2 hO2 hk2 => ⟨Sb.a, ?_⟩)
      refine xm_one 5 (m' := 63) rfl (by kernel_rfl) rfl (by kernel_rfl) (ef_appendQS [_, _, _, _] L l1 (news := ints .u64 [now]) rfl rfl hO1 rfl (Rs.fresh (List.Mem.head _)) rfl rfl (by decide) (by omega) (by omega) fun q2 k2 l2 hO2 hk2 => ?_)
      refine ⟨Sb.a, ?_⟩
      refine xm_take 6 (m' := 127) rfl (by kernel_rfl) Sb.a (rd_cast (v' := .agg (rxE id q2 (u.ask.length + 1) k2 false).toArray) (rd_build (T := 76) rfl rfl rfl) (by kernel_rfl)) rfl (by kernel_rfl) ?_
      refine xm_one 7 (m' := 255) rfl (by kernel_rfl) rfl (by kernel_rfl) (ef_call rfl (XF.mono (hpq _ _ _ _ (by rw [ints_app]; exact hO2) (by intro z hz; simp [hz])) ?_))
      rintro v L' ⟨y, N, rfl, hyw, hys, hyat, rfl⟩
      refine xmx_seg [_, _, _, _] N _ ?_
      refine ⟨Sb.a, ?_⟩
      refine xm_one 8 (m' := 511) rfl (by kernel_rfl) rfl (by kernel_rfl) (ef_storeB [_, _] _ rfl rfl (by first | rfl | assumption) rfl rfl rfl ?_)
      refine ⟨Sb.a, ?_⟩
      refine xm_take 9 (m' := 1023) rfl (by kernel_rfl) Sb.a (rd_assign rfl) rfl (by kernel_rfl) ?_
      refine xm_done (by kernel_rfl) ?_
      refine xq_seq ?_
      refine xc_ret ?_
      rotate_left
      refine xm_take 6 (m' := 126) rfl (by kernel_rfl) Sb.a (rd_cast (v' := .agg (rxE id q2 (u.ask.length + 1) k2 false).toArray) (rd_build (T := 76) rfl rfl rfl) (by kernel_rfl)) rfl (by kernel_rfl) ?_
      refine xm_one 0 (m' := 127) rfl (by kernel_rfl) rfl (by kernel_rfl) (ef_rd (rd_loadB rfl Kn.o3 (by rfl)) ?_)
      refine ⟨Sb.a, ?_⟩
      refine xm_one 7 (m' := 255) rfl (by kernel_rfl) rfl (by kernel_rfl) (ef_call rfl (XF.mono (hpq _ _ _ _ (by rw [ints_app]; exact hO2) (by intro z hz; simp [hz])) ?_))
      rintro v L' ⟨y, N, rfl, hyw, hys, hyat, rfl⟩
      refine xmx_seg [_, _, _, _] N _ ?_
      refine ⟨Sb.a, ?_⟩
      refine xm_one 8 (m' := 511) rfl (by kernel_rfl) rfl (by kernel_rfl) (ef_storeB [_, _] _ rfl rfl (by first | rfl | assumption) rfl rfl rfl ?_)
      refine ⟨Sb.a, ?_⟩
      refine xm_take 9 (m' := 1023) rfl (by kernel_rfl) Sb.a (rd_assign rfl) rfl (by kernel_rfl) ?_
      refine xm_done (by kernel_rfl) ?_
      refine xq_seq ?_
      refine xc_ret ?_
      rotate_left
    all_goals exact xq_retB2 (.inl rfl) Try.results35 rfl rfl Kn.o2 rfl (List.sublist_append_right [_, _, _, _] _) ⟨y, N ++ l2, rfl, hyw, hys.trans (congrArg (fun s => putS s x.s) (show (Rx.mk id (u.ask ++ [now]) false q2 k2).s = _ from hkey)), by rw [List.append_assoc]; exact hyat, by rw [List.append_assoc]⟩
/-- Who is answered, told of one. -/
theorem ansA_one {l : List Sr} (hp : (l.map Sr.id).Pairwise (· < ·)) (id : Int) : ansA [id] l = if 0 < (getS l id).wt then putS (ansS (getS l id)) l else l := by
  cases hf : srF l id with
  | none =>
    rw [getS_none hf, if_neg (by show ¬ (0 : Int) < 0; decide)]
    unfold ansA
    rw [List.map_congr_left (g := _root_.id)]
    · simp
    · intro y hy
      rw [if_neg]; rfl
      rintro ⟨_, h⟩
      have : (srF l id).isSome = true := srF_mem.2 (by rw [← ixOf_one.1 h]; exact List.mem_map_of_mem hy)
      rw [hf] at this; cases this
  | some s =>
    obtain ⟨hm, hi⟩ := srF_id hf
    rw [getS_some hf]
    by_cases hw : 0 < s.wt
    · rw [if_pos hw, put_map hp (by show s.id ∈ _; exact List.mem_map_of_mem hm)]
      unfold ansA
      refine List.map_congr_left fun y hy => ?_
      show (if 0 < y.wt ∧ 0 ≤ ixOf [id] y.id then ansS y else y) = if y.id = s.id then ansS s else y
      by_cases hy2 : y.id = s.id
      · have : y = s := by rw [← getS_mem hp hy, ← getS_mem hp hm, hy2]
        subst this
        rw [if_pos rfl, if_pos ⟨hw, ixOf_one.2 hi⟩]
      · rw [if_neg hy2, if_neg]
        rintro ⟨_, h⟩
        exact hy2 ((ixOf_one.1 h).trans hi.symm)
    · rw [if_neg hw]
      unfold ansA
      rw [List.map_congr_left (g := _root_.id)]
      · simp
      · intro y hy
        rw [if_neg]; rfl
        rintro ⟨h1, h⟩
        have : y = s := by rw [← getS_mem hp hy, ← getS_mem hp hm, ixOf_one.1 h, hi]
        subst this
        exact hw h1
theorem ixOf_in {l : List Int} {y : Int} : 0 ≤ ixOf l y ↔ y ∈ l := by
  unfold ixOf
  cases h : l.findIdx? (· == y) with
  | some i =>
    obtain ⟨hi, h1, _⟩ := List.findIdx?_eq_some_iff_getElem.1 h
    have h2 : l[i] = y := by simpa using h1
    exact ⟨fun _ => h2 ▸ List.getElem_mem hi, fun _ => by dsimp only; omega⟩
  | none =>
    have h1 := List.findIdx?_eq_none_iff.1 h
    exact ⟨fun h => by dsimp only at h; omega, fun h => by have := h1 y h; simp at this⟩
theorem ansA_two {l : List Sr} (a b : Int) : ansA [b] (ansA [a] l) = ansA [a, b] l := by
  unfold ansA
  rw [List.map_map]
  refine List.map_congr_left fun s _ => ?_
  show (if 0 < (if 0 < s.wt ∧ 0 ≤ ixOf [a] s.id then ansS s else s).wt ∧ 0 ≤ ixOf [b] (if 0 < s.wt ∧ 0 ≤ ixOf [a] s.id then ansS s else s).id then ansS (if 0 < s.wt ∧ 0 ≤ ixOf [a] s.id then ansS s else s) else (if 0 < s.wt ∧ 0 ≤ ixOf [a] s.id then ansS s else s)) = if 0 < s.wt ∧ 0 ≤ ixOf [a, b] s.id then ansS s else s
  have h2 : 0 ≤ ixOf [a, b] s.id ↔ s.id = a ∨ s.id = b := by rw [ixOf_in]; simp
  simp only [h2]
  simp only [ixOf_one]
  by_cases hw : 0 < s.wt
  · by_cases ha : s.id = a
    · simp [hw, ha, ansS]
    · by_cases hb : s.id = b
      · subst hb; simp [hw, ha, ansS]
      · simp [hw, ha, hb, ansS]
  · simp [hw]
set_option maxHeartbeats 1600000 in
theorem xr_Answered {W : World} {L : List Blk} (L0 : List Blk) (hs : ∀ z, z ∈ L0 → z ∈ L) (x : Rz) (hx : x.At W L0) (id : Int) (hso : (x.s.map Sr.id).Pairwise (· < ·)) (hl : x.l.length < 1000) :
    XF Try.prog W 33 #[.agg x.enc.toArray, .int .u32 id] L (fun v L' => ∃ y N, v = .agg (Rz.enc y).toArray ∧ y.w = x.w ∧ y.s = ansA [id] x.s ∧ y.At W (N ++ L0) ∧ L' = N ++ L) := by
  have hof := fun L' (h : ∀ z, z ∈ L → z ∈ L') => xr_Of (W := W) (L := L') x (hx.mono fun z hz => h z (hs z hz)) id
  obtain ⟨ho1, ho2⟩ := ofX_at hx id
  have hos := ofX_s x.l id
  rw [ansA_one hso]
  change _ = getS x.s id at hos
  rw [← hos]
  generalize ofX x.l id = u at *
  refine xf_enter (args := [_, _]) Try.func33 rfl Try.ntmps33 rfl ?_
  obtain ⟨uid, uask, uwt, up, uc⟩ := u
  cases uwt with
  | false =>
    rw [if_neg (show ¬ 0 < (Rx.mk uid uask false up uc).s.wt from fun h => absurd (show (0 : Int) < 0 from h) (by decide))]
    focus
      refine xc_seq ?_
      refine xc_region ?_
      refine xo_ef rfl (ef_box rfl fun r2 => ?_)
      refine xo_ef rfl (ef_alloc fun r4 => ?_)
      refine xo_nil ?_
      refine xq_seq ?_
      refine xc_seq ?_
      refine xc_region ?_
      refine xo_rd (rd_loadB rfl Kn.o1 (by rfl)) rfl ?_
      refine xo_rd (rd_move rfl) rfl ?_
      refine xo_ef rfl (ef_call rfl (XF.mono (hof _ (by intro z hz; simp [hz])) ?_))
      rintro v L' ⟨rfl, rfl⟩
      refine xo_ef rfl (ef_alloc fun r5 => ?_)
      refine xo_ef rfl (ef_storeB [] _ rfl rfl (by first | rfl | assumption) rfl rfl rfl ?_)
      refine xo_nil ?_
      refine xq_seq ?_
      refine xc_seq ?_
      refine xc_seq ?_
      refine xc_region ?_
      refine xo_rd (rd_fieldAddr rfl) rfl ?_
      refine xo_rd (rd_load1 rfl (Cl.o0 rfl)) rfl ?_
      refine xo_rd (rd_not rfl) rfl ?_
      refine xo_nil ?_
      refine xq_seq ?_
      refine xc_condt rfl ?_
      refine xc_seq ?_
      refine xc_region ?_
      refine xo_rd (rd_loadB rfl Kn.o2 (by rfl)) rfl ?_
      refine xo_ef rfl (ef_storeB [_] _ rfl rfl (by first | rfl | assumption) rfl rfl rfl ?_)
      refine xo_nil ?_
      refine xq_seq ?_
      refine xc_ret ?_
      refine xq_then_ret ?_
    exact xq_retB (.inl rfl) Try.results33 rfl Kn.o1 rfl (List.sublist_append_right [_, _, _] _) ⟨x, [], rfl, rfl, rfl, hx, rfl⟩
  | true =>
    rw [if_pos (show 0 < (Rx.mk uid uask true up uc).s.wt from (by decide : (0 : Int) < 1))]
    have hpu := fun L' (h : ∀ z, z ∈ L → z ∈ L') => xr_put (W := W) (L := L') L0 (fun z hz => h z (hs z hz)) x hx ⟨uid, uask, false, up, uc⟩ ho1 ho2 hso hl
    focus
      refine xc_seq ?_
      refine xc_region ?_
      refine xo_ef rfl (ef_box rfl fun r2 => ?_)
      refine xo_ef rfl (ef_alloc fun r4 => ?_)
      refine xo_nil ?_
      refine xq_seq ?_
      refine xc_seq ?_
      refine xc_region ?_
      refine xo_rd (rd_loadB rfl Kn.o1 (by rfl)) rfl ?_
      refine xo_rd (rd_move rfl) rfl ?_
      refine xo_ef rfl (ef_call rfl (XF.mono (hof _ (by intro z hz; simp [hz])) ?_))
      rintro v L' ⟨rfl, rfl⟩
      refine xo_ef rfl (ef_alloc fun r5 => ?_)
      refine xo_ef rfl (ef_storeB [] _ rfl rfl (by first | rfl | assumption) rfl rfl rfl ?_)
      refine xo_nil ?_
      refine xq_seq ?_
      refine xc_seq ?_
      refine xc_seq ?_
      refine xc_region ?_
      refine xo_rd (rd_fieldAddr rfl) rfl ?_
      refine xo_rd (rd_load1 rfl (Cl.o0 rfl)) rfl ?_
      refine xo_rd (rd_not rfl) rfl ?_
      refine xo_nil ?_
      refine xq_seq ?_
      refine xc_condf rfl ?_
      refine xc_skip ?_
      refine xq_seq ?_
      refine xc_seq ?_
      refine xc_region ?_
      refine xo_rd (rd_fieldAddr rfl) rfl ?_
      refine xo_ef rfl (ef_store1 [] _ rfl rfl (by first | rfl | assumption) rfl rfl rfl ?_)
      refine xo_nil ?_
      refine xq_seq ?_
      refine xc_seq ?_
      refine xc_region ?_
      refine xo_rd (rd_loadB rfl Kn.o2 (by rfl)) rfl ?_
      refine xo_rd (rd_loadB rfl Kn.o0 (by rfl)) rfl ?_
      refine xo_ef rfl (ef_call rfl (XF.mono (hpu _ (by intro z hz; simp [hz])) ?_))
      rintro v L' ⟨y, N, rfl, hyw, hys, hyat, rfl⟩
      refine xo_seg [_, _, _] N _ ?_
      refine xo_ef rfl (ef_storeB [_] _ rfl rfl (by first | rfl | assumption) rfl rfl rfl ?_)
      refine xo_nil ?_
      refine xq_seq ?_
      refine xc_ret ?_
    exact xq_retB (.inl rfl) Try.results33 rfl Kn.o1 rfl (List.sublist_append_right [_, _, _] _) ⟨y, N, rfl, hyw, hys, hyat, rfl⟩
end Go.Proofs.Ytoolgphkfnkajaa.X
/-
  Chapter 23: the reference: a tick; when the next request may go: walks of my own.
-/
namespace Go.Proofs.Ytoolgphkfnkajaa.X
open Go Go.RowKit
set_option linter.unusedVariables false
set_option linter.unusedSimpArgs false
/-- Where the reference's tick stands. -/
structure RtS where
  i : Nat
  y : Rz
  N : List Blk
  p : Option Addr
  c : Nat
  l : List Blk
theorem tickO_snoc (w now : Int) (l : List Sr) (s : Sr) : tickO w (l ++ [s]) now = tickO w l now ++ if dueS w now s = true then [s.id] else [] := by
  unfold tickO
  rw [List.filter_append, List.map_append]
  congr 1
  by_cases h : dueS w now s = true <;> simp [h]
theorem tickO_ids {w now : Int} {l : List Sr} {d : Int} (h : d ∈ tickO w l now) : d ∈ l.map Sr.id := by
  obtain ⟨s, hs, rfl, _⟩ := tickO_mem h
  exact List.mem_map_of_mem hs
theorem tickO_le (w now : Int) (l : List Sr) : (tickO w l now).length ≤ l.length := by unfold tickO; rw [List.length_map]; exact List.length_filter_le _ _
theorem perm_rt {a b : Blk} (l N G : List Blk) : (N ++ (a :: b :: (l ++ G))).Perm (a :: b :: (l ++ (N ++ G))) := (by classical exact List.perm_iff_count.2 fun a => by simp only [List.append_eq, List.count_append, List.count_cons, List.count_nil, List.cons_append, List.nil_append, List.flatMap_append, List.flatMap_cons, List.flatMap_nil, List.append_nil]; omega)
set_option maxHeartbeats 3200000 in
theorem xr_Tick {W : World} {L : List Blk} (L0 : List Blk) (hs : ∀ z, z ∈ L0 → z ∈ L) (x : Rz) (hx : x.At W L0) (now : Int) (hso : (x.s.map Sr.id).Pairwise (· < ·)) (hl : x.l.length < 900) (hal : ∀ u, u ∈ x.l → u.ask.length < 900) (hla : ∀ s, s ∈ x.s → 0 ≤ s.last) (hn : 0 ≤ now ∧ now ≤ 18446744073709551615) :
    XF Try.prog W 32 #[.agg x.enc.toArray, .int .u64 now] L (fun v L' => ∃ y N q k lb, v = .tuple #[.agg (Rz.enc y).toArray, .slice q (tickO x.w x.s now).length k] ∧ SlQ 1 30 (.slice q (tickO x.w x.s now).length k) (tickO x.w x.s now).length (ints .u32 (tickO x.w x.s now)) lb ∧ y.w = x.w ∧ y.s = tickL x.w x.s now ∧ y.At W (N ++ L0) ∧ L' = lb ++ (N ++ L)) := by
  refine xf_enter (args := [_, _]) Try.func32 rfl Try.ntmps32 rfl ?_
  have hsl : x.s.length = x.l.length := List.length_map ..
  have htl := tickL_step (w := x.w) (now := now) hso
  focus
    refine xc_seq ?_
    refine xc_region ?_
    refine xo_ef rfl (ef_box rfl fun r2 => ?_)
    refine xo_ef rfl (ef_alloc fun r4 => ?_)
    refine xo_rd (rd_assign rfl) rfl ?_
    refine xo_nil ?_
    refine xq_seq ?_
    refine xc_seq ?_
    refine xc_region ?_
    refine xo_rd (rd_assign rfl) rfl ?_
    refine xo_nil ?_
    refine xq_seq ?_
    refine xc_seq ?_
    refine xc_region ?_
    refine xo_rd (rd_fieldAddr rfl) rfl ?_
    refine xo_rd (rd_load1 rfl (Cl.o1 rfl)) rfl ?_
    refine xo_rd (rd_assign rfl) rfl ?_
    refine xo_nil ?_
    refine xq_seq ?_
    refine xc_seq ?_
    refine xc_seq ?_
    refine xc_region ?_
    refine xo_rd (rd_assign rfl) rfl ?_
    refine xo_nil ?_
    refine xq_seq ?_
    refine xc_block ?_
  obtain ⟨P, hP⟩ : ∃ P, x.p = P := ⟨_, rfl⟩
  have hxr : Rs W L0 P (x.l.flatMap Rx.enc) := hP ▸ hx.r
  rw [hP]
  refine xc_loopI (ι := RtS) (fun s => s.i ≤ x.l.length ∧ s.y.w = x.w ∧ s.y.s = stepM x.w now (tickO x.w (x.s.take s.i) now) x.s ∧ s.y.At W (s.N ++ L0) ∧ SlQ 1 30 (.slice s.p (tickO x.w (x.s.take s.i) now).length s.c) (tickO x.w (x.s.take s.i) now).length (ints .u32 (tickO x.w (x.s.take s.i) now)) s.l) (fun s => x.l.length - s.i) (fun s => (r4, Obj.cells (rzE 0 none 0 0).toArray 57 (0, 0)) :: (r2, Obj.cells s.y.enc.toArray 57 (0, 0)) :: (s.l ++ (s.N ++ L))) (fun s => [(1, .int .u64 now), (2, .pointer (some ⟨r2, 0, none⟩)), (4, .pointer (some ⟨r4, 0, none⟩)), (6, .slice s.p (tickO x.w (x.s.take s.i) now).length s.c), (7, .slice P x.l.length x.c), (8, .int .i64 s.i)]) ⟨0, x, [], none, 0, []⟩ ⟨Nat.zero_le _, rfl, by unfold stepM tickO; simp, hx, by dsimp only; rw [List.take_zero]; exact SlQ.nil⟩ rfl (by dsimp only; rw [List.take_zero]; exact (by repeat (first | exact keep_nil | refine keep_cons rfl ?_))) ?_
  rintro ⟨i, y, N, q, k, lb⟩ ⟨hi, hyw, hys, hyat, hsq⟩
  dsimp only at hi hyw hys hyat hsq ⊢
  by_cases hin : i < x.l.length
  case neg =>
    rw [List.take_of_length_le (by omega)] at hys hsq ⊢
    rw [htl] at hys
    focus
      refine xc_seq ?_
      refine xc_seq ?_
      refine xc_region ?_
      refine xo_rd (rd_move rfl) rfl ?_
      refine xo_rd (rd_move rfl) rfl ?_
      refine xo_rd (rd_len rfl) rfl ?_
      refine xo_rd (rd_lss rfl rfl) rfl ?_
      refine xo_nil ?_
      refine xq_seq ?_
      refine xc_dec rfl (fun h1 => (by exfalso; omega)) (fun h1 => ?_)
      refine xc_exit ?_
      refine xq_then_exit ?_
      refine xq_then_exit ?_
      refine xq_block_hit ?_
      refine xq_seq ?_
      refine xc_seq ?_
      refine xc_region ?_
      refine xo_rd (rd_loadB rfl Kn.o1 (by rfl)) rfl ?_
      refine xo_rd (rd_move rfl) rfl ?_
      refine xo_ef rfl (ef_storeB [] _ rfl rfl (by first | rfl | assumption) rfl rfl rfl ?_)
      refine xo_rd (rd_assign rfl) rfl ?_
      refine xo_nil ?_
      refine xq_seq ?_
      refine xc_ret ?_
    exact xq_retB2 (.inl rfl) Try.results32 rfl rfl Kn.o0 rfl (List.sublist_append_right [_, _] _) ⟨y, N, q, k, lb, rfl, hsq, hyw, hys, hyat, rfl⟩
  obtain ⟨b, o, hp, hc⟩ := hxr.rows Rx.len (by decide) (by omega)
  have hci := hc i hin
  obtain ⟨e, hee⟩ : ∃ e, x.l[i] = e := ⟨_, rfl⟩
  have hem : e ∈ x.l := hee ▸ List.getElem_mem hin
  have hea := hx.a e hem
  have hel := hal e hem
  have hes : e.s ∈ x.s := List.mem_map_of_mem hem
  have hsi : x.s[i]? = some e.s := by unfold Rz.s; rw [List.getElem?_map, List.getElem?_eq_getElem hin, hee]; rfl
  have htk : tickO x.w (x.s.take (i + 1)) now = tickO x.w (x.s.take i) now ++ if dueS x.w now e.s = true then [e.s.id] else [] := by
    rw [List.take_add_one, hsi]
    exact tickO_snoc ..
  have hnt : e.s.id ∉ tickO x.w (x.s.take i) now := fun h => by
    have h1 := tickO_ids h
    have h2 : (x.s.map Sr.id).Nodup := hso.imp fun h => by omega
    rw [List.map_take] at h1
    obtain ⟨j, hj, he⟩ := List.mem_take_iff_getElem.1 h1
    have hi2 : i < (x.s.map Sr.id).length := by rw [List.length_map, hsl]; exact hin
    have h3 : (x.s.map Sr.id)[i]'hi2 = e.s.id := by
      rw [List.getElem_map]
      congr 1
      exact Option.some.inj ((List.getElem?_eq_getElem _).symm.trans hsi)
    have h4 := (List.getElem_inj (h₀ := by omega) (h₁ := hi2) h2).1 (he.trans h3.symm)
    omega
  have hget := stepM_get hso hes hnt (w := x.w) (now := now)
  have hask := stepM_ask hso hes hnt (w := x.w) (now := now)
  rw [← hys] at hget hask
  have hyl : y.l.length = x.l.length := by
    have := congrArg List.length hys
    unfold stepM Rz.s at this
    simpa using this
  have hyi : y.s.map Sr.id = x.s.map Sr.id := by rw [hys, stepM_ids]
  have hym : ∀ s, s ∈ y.s → 0 ≤ s.last ∧ s.sent ≤ 901 := fun s h => by
    rw [hys] at h
    obtain ⟨z, hz, rfl⟩ := List.mem_map.1 h
    have h1 := hla z hz
    obtain ⟨u, hu, rfl⟩ := List.mem_map.1 hz
    have h2 := hal u hu
    have h3 : u.s.sent = u.ask.length := rfl
    split
    · unfold askS
      split <;> dsimp only <;> omega
    · omega
  rw [hee] at hci
  have hci2 : ∀ L', (∀ z, z ∈ L → z ∈ L') → ∀ j u, e.enc[j]? = some u → Cl W L' b (o + (i : Int).toNat * 3 + j) u := fun L' h j u hj => (hci j u hj).mono fun z hz => h z (hs z hz)
  subst hp
  have hlast : 0 ≤ lastA e.ask := hla e.s hes
  have hmay := fun L' (h : ∀ z, z ∈ L → z ∈ L') bb hb => xr_may (W := W) (L := L') y.enc y.w rfl rfl rfl e (hea.mono fun z hz => h z (hs z hz)) (by omega) hlast now hn bb hb
  rw [hyw] at hmay
  have hA : mayB x.w e.s now = true → XF Try.prog W 35 #[.agg y.enc.toArray, .int .u32 e.id, .int .u64 now] ((r4, Obj.cells (rzE 0 none 0 0).toArray 57 (0, 0)) :: (r2, Obj.cells y.enc.toArray 57 (0, 0)) :: (lb ++ (N ++ L))) (fun v L' => ∃ y2 N2, v = .tuple #[.agg (Rz.enc y2).toArray, .bool true] ∧ y2.w = x.w ∧ y2.s = stepM x.w now (tickO x.w (x.s.take i) now ++ [e.s.id]) x.s ∧ y2.At W ((N2 ++ N) ++ L0) ∧ L' = (r4, Obj.cells (rzE 0 none 0 0).toArray 57 (0, 0)) :: (r2, Obj.cells y.enc.toArray 57 (0, 0)) :: (lb ++ ((N2 ++ N) ++ L))) := fun hmb =>
    (xr_Ask (W := W) (L := (r4, Obj.cells (rzE 0 none 0 0).toArray 57 (0, 0)) :: (r2, Obj.cells y.enc.toArray 57 (0, 0)) :: (lb ++ (N ++ L))) (N ++ L0) (fun z hz => by
      refine List.mem_cons_of_mem _ (List.mem_cons_of_mem _ (List.mem_append_right _ ?_))
      rcases List.mem_append.1 hz with h | h
      · exact List.mem_append_left _ h
      · exact List.mem_append_right _ (hs z h)) y hyat e.id now (by rw [hyi]; exact hso) (by omega) (fun u hu => by
        have := (hym u.s (List.mem_map_of_mem hu)).2
        have h3 : u.s.sent = u.ask.length := rfl
        omega) (fun s h => (hym s h).1) hn true (by rw [hyw, show e.id = e.s.id from rfl, hget]; exact hmb)).mapK fun v L' ⟨y2, N2, h1, h2, h3, h4, h5⟩ => ⟨_, h5 ▸ (by rw [List.append_assoc]; exact perm_rt lb N2 (N ++ L)), y2, N2, h1, h2.trans hyw, by rw [h3, hyw]; exact hask, by rw [List.append_assoc]; exact h4, rfl⟩
  obtain ⟨eid, eask, ewt, ep, ec⟩ := e
  cases ewt with
  | false =>
    have hdue : dueS x.w now (Rx.mk eid eask false ep ec).s = false := rfl
    rw [hdue] at htk
    simp only [Bool.false_eq_true, if_false, List.append_nil] at htk
    focus
      refine xc_seq ?_
      refine xc_seq ?_
      refine xc_region ?_
      refine xo_rd (rd_move rfl) rfl ?_
      refine xo_rd (rd_move rfl) rfl ?_
      refine xo_rd (rd_len rfl) rfl ?_
      refine xo_rd (rd_lss rfl rfl) rfl ?_
      refine xo_nil ?_
      refine xq_seq ?_
      refine xc_dec rfl (fun h1 => ?_) (fun h1 => (by exfalso; omega))
      refine xc_skip ?_
      refine xq_seq ?_
      refine xc_seq ?_
      refine xc_block ?_
      refine xc_seq ?_
      refine xc_drawM [0, 0, 3, 4, 8, 16, 32, 32, 32, 416, 544, 32, 3168, 4128] [0, 0, 3, 4, 8, 16, 32, 32, 32, 416, 544, 32, 3168, 4128] ((r4, Obj.cells (rzE 0 none 0 0).toArray 57 (0, 0)) :: (r2, Obj.cells y.enc.toArray 57 (0, 0)) :: (lb ++ (N ++ L))) (by kernel_rfl) (by kernel_rfl) (by kernel_rfl) ?_
      refine xm_take 0 (m' := 1) rfl (by kernel_rfl) Sb.a (rd_move rfl) rfl (by kernel_rfl) ?_
      refine xm_take 1 (m' := 3) rfl (by kernel_rfl) Sb.a (rd_move rfl) rfl (by kernel_rfl) ?_
      refine xm_take 2 (m' := 7) rfl (by kernel_rfl) Sb.a (rd_indexAddr rfl rfl (by omega) (by omega)) rfl (by kernel_rfl) ?_
      refine xm_take 3 (m' := 15) rfl (by kernel_rfl) Sb.a (rd_fieldAddr rfl) rfl (by kernel_rfl) ?_
      refine xm_take 4 (m' := 31) rfl (by kernel_rfl) Sb.a (rd_load1 rfl (hci2 _ (by intro z hz; simp [hz]) 2 (.bool false) rfl)) rfl (by kernel_rfl) ?_
      refine xm_take 5 (m' := 63) rfl (by kernel_rfl) Sb.a (rd_move rfl) rfl (by kernel_rfl) ?_
      refine xm_gskip 6 (m' := 127) rfl (by kernel_rfl) Sb.a rfl rfl rfl rfl (by kernel_rfl) ?_
      refine xm_gskip 7 (m' := 255) rfl (by kernel_rfl) Sb.a rfl rfl rfl rfl (by kernel_rfl) ?_
      refine xm_gskip 8 (m' := 511) rfl (by kernel_rfl) Sb.a rfl rfl rfl rfl (by kernel_rfl) ?_
      refine xm_gskip 9 (m' := 1023) rfl (by kernel_rfl) Sb.a rfl rfl rfl rfl (by kernel_rfl) ?_
      refine xm_gskip 10 (m' := 2047) rfl (by kernel_rfl) Sb.a rfl rfl rfl rfl (by kernel_rfl) ?_
      refine xm_gskip 11 (m' := 4095) rfl (by kernel_rfl) Sb.a rfl rfl rfl rfl (by kernel_rfl) ?_
      refine xm_gskip 12 (m' := 8191) rfl (by kernel_rfl) Sb.a rfl rfl rfl rfl (by kernel_rfl) ?_
      refine xm_take 13 (m' := 16383) rfl (by kernel_rfl) Sb.a (rd_pickf rfl rfl) rfl (by kernel_rfl) ?_
      refine xm_done (by kernel_rfl) ?_
      refine xq_seq ?_
      refine xc_condf rfl ?_
      refine xc_skip ?_
      refine xq_block ?_
      refine xq_seq ?_
      refine xc_region ?_
      refine xo_rd (rd_move rfl) rfl ?_
      refine xo_rd (rd_addn rfl rfl (by omega) (by omega)) rfl ?_
      refine xo_rd (rd_assign rfl) rfl ?_
      refine xo_nil ?_
    all_goals exact xq_roundI (⟨i + 1, y, N, q, k, lb⟩ : RtS) ⟨by dsimp only; omega, hyw, by dsimp only; rw [htk]; exact hys, hyat, by dsimp only; rw [htk]; exact hsq⟩ (by dsimp only; omega) rfl (by dsimp only; rw [htk]; exact (by repeat (first | exact keep_nil | refine keep_cons rfl ?_)))
  | true =>
    obtain ⟨mb, hmb⟩ : ∃ mb, mayB x.w (Rx.mk eid eask true ep ec).s now = mb := ⟨_, rfl⟩
    have hdue : dueS x.w now (Rx.mk eid eask true ep ec).s = mb := by unfold dueS; rw [hmb]; rfl
    rw [hdue] at htk
    have hdl := tickO_le x.w now (x.s.take i)
    rw [List.length_take] at hdl
    cases mb with
    | false =>
      simp only [Bool.false_eq_true, if_false, List.append_nil] at htk
      focus
        refine xc_seq ?_
        refine xc_seq ?_
        refine xc_region ?_
        refine xo_rd (rd_move rfl) rfl ?_
        refine xo_rd (rd_move rfl) rfl ?_
        refine xo_rd (rd_len rfl) rfl ?_
        refine xo_rd (rd_lss rfl rfl) rfl ?_
        refine xo_nil ?_
        refine xq_seq ?_
        refine xc_dec rfl (fun h1 => ?_) (fun h1 => (by exfalso; omega))
        refine xc_skip ?_
        refine xq_seq ?_
        refine xc_seq ?_
        refine xc_block ?_
        refine xc_seq ?_
        refine xc_drawM [0, 0, 3, 4, 8, 16, 32, 32, 32, 416, 544, 32, 3168, 4128] [0, 0, 3, 4, 8, 16, 32, 32, 32, 416, 544, 32, 3168, 4128] ((r4, Obj.cells (rzE 0 none 0 0).toArray 57 (0, 0)) :: (r2, Obj.cells y.enc.toArray 57 (0, 0)) :: (lb ++ (N ++ L))) (by kernel_rfl) (by kernel_rfl) (by kernel_rfl) ?_
        refine xm_take 0 (m' := 1) rfl (by kernel_rfl) Sb.a (rd_move rfl) rfl (by kernel_rfl) ?_
        refine xm_take 1 (m' := 3) rfl (by kernel_rfl) Sb.a (rd_move rfl) rfl (by kernel_rfl) ?_
        refine xm_take 2 (m' := 7) rfl (by kernel_rfl) Sb.a (rd_indexAddr rfl rfl (by omega) (by omega)) rfl (by kernel_rfl) ?_
        refine xm_take 3 (m' := 15) rfl (by kernel_rfl) Sb.a (rd_fieldAddr rfl) rfl (by kernel_rfl) ?_
        refine xm_take 4 (m' := 31) rfl (by kernel_rfl) Sb.a (rd_load1 rfl (hci2 _ (by intro z hz; simp [hz]) 2 (.bool true) rfl)) rfl (by kernel_rfl) ?_
        refine xm_take 5 (m' := 63) rfl (by kernel_rfl) Sb.a (rd_move rfl) rfl (by kernel_rfl) ?_
        refine xm_gtake 6 (m' := 127) rfl (by kernel_rfl) Sb.a rfl rfl (rd_loadB rfl Kn.o1 (by rfl)) rfl (by kernel_rfl) ?_
        refine xm_gtake 7 (m' := 255) rfl (by kernel_rfl) Sb.a rfl rfl (rd_move rfl) rfl (by kernel_rfl) ?_
        refine xm_gtake 8 (m' := 511) rfl (by kernel_rfl) Sb.a rfl rfl (rd_move rfl) rfl (by kernel_rfl) ?_
        refine xm_gtake 9 (m' := 1023) rfl (by kernel_rfl) Sb.a rfl rfl (rd_indexAddr rfl rfl (by omega) (by omega)) rfl (by kernel_rfl) ?_
        refine xm_gtake 10 (m' := 2047) rfl (by kernel_rfl) Sb.a rfl rfl (rd_loadA (vs := (Rx.mk eid eask true ep ec).enc) rfl rfl (hci2 _ (by intro z hz; simp [hz]))) rfl (by kernel_rfl) ?_
        refine xm_gtake 11 (m' := 4095) rfl (by kernel_rfl) Sb.a rfl rfl (rd_move rfl) rfl (by kernel_rfl) ?_
        refine xm_gone 12 (m' := 8191) rfl (by kernel_rfl) rfl rfl rfl (by kernel_rfl) (ef_call rfl (XF.mono (hmay _ (by intro z hz; simp [hz]) false hmb) ?_))
        rintro v L' ⟨rfl, rfl⟩
        refine ⟨Sb.a, ?_⟩
        refine xm_take 13 (m' := 16383) rfl (by kernel_rfl) Sb.a (rd_pickt rfl rfl) rfl (by kernel_rfl) ?_
        refine xm_done (by kernel_rfl) ?_
        refine xq_seq ?_
        refine xc_condf rfl ?_
        refine xc_skip ?_
        refine xq_block ?_
        refine xq_seq ?_
        refine xc_region ?_
        refine xo_rd (rd_move rfl) rfl ?_
        refine xo_rd (rd_addn rfl rfl (by omega) (by omega)) rfl ?_
        refine xo_rd (rd_assign rfl) rfl ?_
        refine xo_nil ?_
      all_goals exact xq_roundI (⟨i + 1, y, N, q, k, lb⟩ : RtS) ⟨by dsimp only; omega, hyw, by dsimp only; rw [htk]; exact hys, hyat, by dsimp only; rw [htk]; exact hsq⟩ (by dsimp only; omega) rfl (by dsimp only; rw [htk]; exact (by repeat (first | exact keep_nil | refine keep_cons rfl ?_)))
    | true =>
      simp only [if_true] at htk
      focus
        refine xc_seq ?_
        refine xc_seq ?_
        refine xc_region ?_
        refine xo_rd (rd_move rfl) rfl ?_
        refine xo_rd (rd_move rfl) rfl ?_
        refine xo_rd (rd_len rfl) rfl ?_
        refine xo_rd (rd_lss rfl rfl) rfl ?_
        refine xo_nil ?_
        refine xq_seq ?_
        refine xc_dec rfl (fun h1 => ?_) (fun h1 => (by exfalso; omega))
        refine xc_skip ?_
        refine xq_seq ?_
        refine xc_seq ?_
        refine xc_block ?_
        refine xc_seq ?_
        refine xc_drawM [0, 0, 3, 4, 8, 16, 32, 32, 32, 416, 544, 32, 3168, 4128] [0, 0, 3, 4, 8, 16, 32, 32, 32, 416, 544, 32, 3168, 4128] ((r4, Obj.cells (rzE 0 none 0 0).toArray 57 (0, 0)) :: (r2, Obj.cells y.enc.toArray 57 (0, 0)) :: (lb ++ (N ++ L))) (by kernel_rfl) (by kernel_rfl) (by kernel_rfl) ?_
        refine xm_take 0 (m' := 1) rfl (by kernel_rfl) Sb.a (rd_move rfl) rfl (by kernel_rfl) ?_
        refine xm_take 1 (m' := 3) rfl (by kernel_rfl) Sb.a (rd_move rfl) rfl (by kernel_rfl) ?_
        refine xm_take 2 (m' := 7) rfl (by kernel_rfl) Sb.a (rd_indexAddr rfl rfl (by omega) (by omega)) rfl (by kernel_rfl) ?_
        refine xm_take 3 (m' := 15) rfl (by kernel_rfl) Sb.a (rd_fieldAddr rfl) rfl (by kernel_rfl) ?_
        refine xm_take 4 (m' := 31) rfl (by kernel_rfl) Sb.a (rd_load1 rfl (hci2 _ (by intro z hz; simp [hz]) 2 (.bool true) rfl)) rfl (by kernel_rfl) ?_
        refine xm_take 5 (m' := 63) rfl (by kernel_rfl) Sb.a (rd_move rfl) rfl (by kernel_rfl) ?_
        refine xm_gtake 6 (m' := 127) rfl (by kernel_rfl) Sb.a rfl rfl (rd_loadB rfl Kn.o1 (by rfl)) rfl (by kernel_rfl) ?_
        refine xm_gtake 7 (m' := 255) rfl (by kernel_rfl) Sb.a rfl rfl (rd_move rfl) rfl (by kernel_rfl) ?_
        refine xm_gtake 8 (m' := 511) rfl (by kernel_rfl) Sb.a rfl rfl (rd_move rfl) rfl (by kernel_rfl) ?_
        refine xm_gtake 9 (m' := 1023) rfl (by kernel_rfl) Sb.a rfl rfl (rd_indexAddr rfl rfl (by omega) (by omega)) rfl (by kernel_rfl) ?_
        refine xm_gtake 10 (m' := 2047) rfl (by kernel_rfl) Sb.a rfl rfl (rd_loadA (vs := (Rx.mk eid eask true ep ec).enc) rfl rfl (hci2 _ (by intro z hz; simp [hz]))) rfl (by kernel_rfl) ?_
        refine xm_gtake 11 (m' := 4095) rfl (by kernel_rfl) Sb.a rfl rfl (rd_move rfl) rfl (by kernel_rfl) ?_
        refine xm_gone 12 (m' := 8191) rfl (by kernel_rfl) rfl rfl rfl (by kernel_rfl) (ef_call rfl (XF.mono (hmay _ (by intro z hz; simp [hz]) true hmb) ?_))
        rintro v L' ⟨rfl, rfl⟩
        refine ⟨Sb.a, ?_⟩
        refine xm_take 13 (m' := 16383) rfl (by kernel_rfl) Sb.a (rd_pickt rfl rfl) rfl (by kernel_rfl) ?_
        refine xm_done (by kernel_rfl) ?_
        refine xq_seq ?_
        refine xc_condt rfl ?_
      focus
        refine xc_seq ?_
        refine xc_drawM [0, 0, 0, 6, 8, 16, 0, 97, 128, 256, 256, 1023] [0, 0, 0, 6, 8, 16, 0, 97, 128, 256, 256, 1023] (L) (by kernel_rfl) (by kernel_rfl) (by kernel_rfl) ?_
        refine xm_take 1 (m' := 2) rfl (by kernel_rfl) Sb.a (rd_move rfl) rfl (by kernel_rfl) ?_
        refine xm_take 2 (m' := 6) rfl (by kernel_rfl) Sb.a (rd_move rfl) rfl (by kernel_rfl) ?_
        refine xm_take 3 (m' := 14) rfl (by kernel_rfl) Sb.a (rd_indexAddr rfl rfl (by omega) (by omega)) rfl (by kernel_rfl) ?_
        refine xm_take 4 (m' := 30) rfl (by kernel_rfl) Sb.a (rd_fieldAddr rfl) rfl (by kernel_rfl) ?_
        refine xm_take 5 (m' := 62) rfl (by kernel_rfl) Sb.a (rd_load1 rfl (hci2 _ (by intro z hz; simp [hz]) 0 (.int .u32 eid) rfl)) rfl (by kernel_rfl) ?_
        refine xm_take 6 (m' := 126) rfl (by kernel_rfl) Sb.a (rd_move rfl) rfl (by kernel_rfl) ?_
        refine xm_one 0 (m' := 127) rfl (by kernel_rfl) rfl (by kernel_rfl) (ef_rd (rd_loadB rfl Kn.o1 (by rfl)) ?_)
        refine ⟨Sb.a, ?_⟩
        refine xm_one 7 (m' := 255) rfl (by kernel_rfl) rfl (by kernel_rfl) (ef_call rfl (XF.mono (hA hmb) ?_))
        rintro v L' ⟨y2, N2, rfl, hy2w, hy2s, hy2at, rfl⟩
        refine ⟨Sb.a, ?_⟩
        refine xm_take 8 (m' := 511) rfl (by kernel_rfl) Sb.a (rd_move rfl) rfl (by kernel_rfl) ?_
        refine xm_take 9 (m' := 1023) rfl (by kernel_rfl) Sb.a (rd_extract rfl rfl) rfl (by kernel_rfl) ?_
        refine xm_take 10 (m' := 2047) rfl (by kernel_rfl) Sb.a (rd_extract rfl rfl) rfl (by kernel_rfl) ?_
        refine xm_one 11 (m' := 4095) rfl (by kernel_rfl) rfl (by kernel_rfl) (ef_storeB [_] _ rfl rfl (by first | rfl | assumption) rfl rfl rfl ?_)
        refine ⟨Sb.a, ?_⟩
        refine xm_done (by kernel_rfl) ?_
        refine xq_seq ?_
        refine xc_region ?_
        refine xo_rd (rd_move rfl) rfl ?_
        refine xo_rd (rd_move rfl) rfl ?_
        refine xo_rd (rd_move rfl) rfl ?_
        refine xo_rd (rd_indexAddr rfl rfl (by omega) (by omega)) rfl ?_
        refine xo_rd (rd_fieldAddr rfl) rfl ?_
        refine xo_rd (rd_load1 rfl (hci2 _ (by intro z hz; simp [hz]) 0 (.int .u32 eid) rfl)) rfl ?_
        refine xo_ef rfl (ef_buildL (T := 34) (len := 1) (s := 1) (cells := (ints .u32 [eid]).toArray) rfl (by decide) (by decide) (by kernel_rfl) fun r48 => ?_)
        refine xo_ef rfl (ef_appendQS [_, _, _] ((N2 ++ N) ++ L) lb (news := ints .u32 [eid]) rfl rfl hsq rfl (Rs.fresh (List.Mem.head _)) rfl rfl (by decide) (by omega) (by omega) fun q2 k2 lb2 hO2 hk2 => ?_)
        refine xo_rd (rd_assign rfl) rfl ?_
        refine xo_nil ?_
        refine xq_block ?_
        refine xq_seq ?_
        refine xc_region ?_
        refine xo_rd (rd_move rfl) rfl ?_
        refine xo_rd (rd_addn rfl rfl (by omega) (by omega)) rfl ?_
        refine xo_rd (rd_assign rfl) rfl ?_
        refine xo_nil ?_
      all_goals exact xq_sub (List.sublist_cons_self _ _) (xq_roundI (⟨i + 1, y2, N2 ++ N, q2, k2, lb2⟩ : RtS) ⟨by dsimp only; omega, hy2w, by dsimp only; rw [htk]; exact hy2s, hy2at, by dsimp only; rw [htk, List.length_append, ints_app]; exact hO2⟩ (by dsimp only; omega) rfl (by dsimp only; rw [htk, List.length_append]; exact (by repeat (first | exact keep_nil | refine keep_cons rfl ?_))))
end Go.Proofs.Ytoolgphkfnkajaa.X
/-
  Chapter 23: the reference: when the next request may go; sources that are dropped: walks of my own.
-/
namespace Go.Proofs.Ytoolgphkfnkajaa.X
open Go Go.RowKit
set_option linter.unusedVariables false
set_option linter.unusedSimpArgs false
def dueR (w : Int) (l : List Sr) (ds : List Int) : Int := if ds = [] then 0 else dueF w l ds
theorem dueF_snoc (w : Int) (l : List Sr) (ds : List Int) (d : Int) : dueF w l (ds ++ [d]) = min (dueF w l ds) ((getS l d).last + min w (18446744073709551615 - (getS l d).last)) := by
  unfold dueF; rw [List.foldl_append]; rfl
set_option maxHeartbeats 3200000 in
theorem xr_Due {W : World} {L : List Blk} (x : Rz) (hx : x.At W L) (hso : (x.s.map Sr.id).Pairwise (· < ·)) (hw : 1 ≤ x.w ∧ x.w ≤ 18446744073709551615) (hla : ∀ s, s ∈ x.s → 0 ≤ s.last ∧ s.last ≤ 18446744073709551615) (hwa : ∀ u, u ∈ x.l → u.wt = true → u.ask ≠ []) :
    XF Try.prog W 37 #[.agg x.enc.toArray] L (fun v L' => v = .tuple #[.int .u64 (dueR x.w x.s (waitX x.l)), .bool (decide (waitX x.l ≠ []))] ∧ L' = L) := by
  have hxl := hx.ll
  refine xf_enter (args := [_]) Try.func37 rfl Try.ntmps37 rfl ?_
  focus
    refine xc_seq ?_
    refine xc_region ?_
    refine xo_ef rfl (ef_box rfl fun r1 => ?_)
    refine xo_rd (rd_assign rfl) rfl ?_
    refine xo_rd (rd_assign rfl) rfl ?_
    refine xo_nil ?_
    refine xq_seq ?_
    refine xc_seq ?_
    refine xc_region ?_
    refine xo_rd (rd_assign rfl) rfl ?_
    refine xo_rd (rd_assign rfl) rfl ?_
    refine xo_nil ?_
    refine xq_seq ?_
    refine xc_seq ?_
    refine xc_seq ?_
    refine xc_region ?_
    refine xo_rd (rd_assign rfl) rfl ?_
    refine xo_nil ?_
    refine xq_seq ?_
    refine xc_block ?_
  refine xc_loopK (ι := Nat) (fun i => i ≤ x.l.length ∧ (0 ≤ dueF x.w x.s (waitX (x.l.take i)) ∧ dueF x.w x.s (waitX (x.l.take i)) ≤ 18446744073709551615)) (fun i => x.l.length - i) (fun i => [(1, .pointer (some ⟨r1, 0, none⟩)), (4, .int .u64 (dueR x.w x.s (waitX (x.l.take i)))), (5, .bool (decide (waitX (x.l.take i) ≠ []))), (6, .int .i64 i)]) 0 ⟨Nat.zero_le _, by unfold dueF; simp [waitX], by unfold dueF; simp [waitX]⟩ (by simp only [List.take_zero]; exact (by repeat (first | exact keep_nil | refine keep_cons rfl ?_))) ?_
  rintro i ⟨hi, hd0, hd1⟩
  by_cases hin : i < x.l.length
  case neg =>
    rw [List.take_of_length_le (by omega)]
    focus
      refine xc_seq ?_
      refine xc_seq ?_
      refine xc_region ?_
      refine xo_rd (rd_move rfl) rfl ?_
      refine xo_rd (rd_fieldAddr rfl) rfl ?_
      refine xo_rd (rd_load1 rfl (Cl.o0 rfl)) rfl ?_
      refine xo_rd (rd_len rfl) rfl ?_
      refine xo_rd (rd_lss rfl rfl) rfl ?_
      refine xo_nil ?_
      refine xq_seq ?_
      refine xc_dec rfl (fun h1 => (by exfalso; omega)) (fun h1 => ?_)
      refine xc_exit ?_
      refine xq_then_exit ?_
      refine xq_then_exit ?_
      refine xq_block_hit ?_
      refine xq_seq ?_
      refine xc_seq ?_
      refine xc_region ?_
      refine xo_rd (rd_move rfl) rfl ?_
      refine xo_rd (rd_move rfl) rfl ?_
      refine xo_rd (rd_assign rfl) rfl ?_
      refine xo_rd (rd_assign rfl) rfl ?_
      refine xo_nil ?_
      refine xq_seq ?_
      refine xc_ret ?_
    exact xq_sub (List.sublist_cons_self _ _) (xq_ret2 (.inl rfl) Try.results37 rfl rfl ⟨rfl, rfl⟩)
  obtain ⟨b, o, hp, hc⟩ := hx.r.rows Rx.len (by decide) (by omega)
  have hci := hc i hin
  obtain ⟨e, hee⟩ : ∃ e, x.l[i] = e := ⟨_, rfl⟩
  have hem : e ∈ x.l := hee ▸ List.getElem_mem hin
  rw [hee] at hci
  have hci2 : ∀ L', (∀ z, z ∈ L → z ∈ L') → ∀ j u, e.enc[j]? = some u → Cl W L' b (o + (i : Int).toNat * 3 + j) u := fun L' h j u hj => (hci j u hj).mono h
  have htk : x.l.take (i + 1) = x.l.take i ++ [e] := by rw [List.take_add_one, List.getElem?_eq_getElem hin, hee]; rfl
  have hea := hx.a e hem
  have hel := hx.al e hem
  have hes : e.s ∈ x.s := List.mem_map_of_mem hem
  have hl2 := hla e.s hes
  have hgs := getS_mem hso hes
  have hwe := hwa e hem
  obtain ⟨eid, eask, ewt, ep, ec⟩ := e
  have hsn := waitX_snoc (x.l.take i) ⟨eid, eask, ewt, ep, ec⟩
  rw [← htk] at hsn
  dsimp only at hsn hwe hea hel
  change getS x.s eid = _ at hgs
  cases ewt with
  | false =>
    simp only [Bool.false_eq_true, if_false, List.append_nil] at hsn
    focus
      refine xc_seq ?_
      refine xc_seq ?_
      refine xc_region ?_
      refine xo_rd (rd_move rfl) rfl ?_
      refine xo_rd (rd_fieldAddr rfl) rfl ?_
      refine xo_rd (rd_cast (v' := .slice (some ⟨b, o, none⟩) x.l.length x.c) (rd_load1 rfl (Cl.own (i := 1) List.mem_cons_self rfl)) (by rw [← hp]; rfl)) rfl ?_
      refine xo_rd (rd_len rfl) rfl ?_
      refine xo_rd (rd_lss rfl rfl) rfl ?_
      refine xo_nil ?_
      refine xq_seq ?_
      refine xc_dec rfl (fun h1 => ?_) (fun h1 => (by exfalso; omega))
      refine xc_skip ?_
      refine xq_seq ?_
      refine xc_seq ?_
      refine xc_block ?_
      refine xc_seq ?_
      refine xc_region ?_
      refine xo_rd (rd_fieldAddr rfl) rfl ?_
      refine xo_rd (rd_cast (v' := .slice (some ⟨b, o, none⟩) x.l.length x.c) (rd_load1 rfl (Cl.own (i := 1) List.mem_cons_self rfl)) (by rw [← hp]; rfl)) rfl ?_
      refine xo_rd (rd_move rfl) rfl ?_
      refine xo_rd (rd_indexAddr rfl rfl (by omega) (by omega)) rfl ?_
      refine xo_rd (rd_loadA (vs := (Rx.mk eid eask false ep ec).enc) rfl rfl (hci2 _ (by intro z hz; simp [hz]))) rfl ?_
      refine xo_ef rfl (ef_alloc fun r7 => ?_)
      refine xo_ef rfl (ef_storeB [] _ rfl rfl (by first | rfl | assumption) rfl rfl rfl ?_)
      refine xo_nil ?_
      refine xq_seq ?_
      refine xc_seq ?_
      refine xc_seq ?_
      refine xc_region ?_
      refine xo_rd (rd_fieldAddr rfl) rfl ?_
      refine xo_rd (rd_load1 rfl (Cl.o0 rfl)) rfl ?_
      refine xo_rd (rd_not rfl) rfl ?_
      refine xo_rd (rd_move rfl) rfl ?_
      refine xo_gskip rfl rfl rfl rfl ?_
      refine xo_gskip rfl rfl rfl rfl ?_
      refine xo_gskip rfl rfl rfl rfl ?_
      refine xo_gskip rfl rfl rfl rfl ?_
      refine xo_rd (rd_pickt rfl rfl) rfl ?_
      refine xo_nil ?_
      refine xq_seq ?_
      refine xc_condt rfl ?_
      refine xc_exit ?_
      refine xq_then_exit ?_
      refine xq_block_hit ?_
      refine xq_seq ?_
      refine xc_region ?_
      refine xo_rd (rd_move rfl) rfl ?_
      refine xo_rd (rd_addn rfl rfl (by omega) (by omega)) rfl ?_
      refine xo_rd (rd_assign rfl) rfl ?_
      refine xo_nil ?_
    exact xq_roundK rfl (i + 1) ⟨by omega, by rw [hsn]; exact ⟨hd0, hd1⟩⟩ (by omega) (List.sublist_cons_self _ _) (by rw [hsn]; exact (by repeat (first | exact keep_nil | refine keep_cons rfl ?_)))
  | true =>
    simp only [if_true] at hsn
    have hne := hwe rfl
    have hpo : 0 < eask.length := List.length_pos_iff.2 hne
    have hsl : (Rx.mk eid eask true ep ec).s.last = lastA eask := rfl
    rw [hsl] at hl2
    have hfs := dueF_snoc x.w x.s (waitX (x.l.take i)) eid
    rw [hgs, hsl, ← hsn] at hfs
    obtain ⟨b1, o1, hpb, hcl⟩ := hea.int (i := eask.length - 1) (by omega)
    have e1 : eask[eask.length - 1]'(by omega) = lastA eask := by unfold lastA; rw [List.getD_eq_getElem?_getD, List.getElem?_eq_getElem (by omega)]; rfl
    rw [e1] at hcl
    have hcl2 : ∀ L', (∀ z, z ∈ L → z ∈ L') → Cl W L' b1 (o1 + ((eask.length : Int) - 1).toNat * 1) (.int .u64 (lastA eask)) := fun L' h => by
      have : ((eask.length : Int) - 1).toNat = ((eask.length - 1 : Nat) : Int).toNat := by omega
      rw [this]; exact hcl.mono h
    subst hpb
    have hnz : waitX (x.l.take (i + 1)) ≠ [] := by rw [hsn]; simp
    have hR2 : dueR x.w x.s (waitX (x.l.take (i + 1))) = dueF x.w x.s (waitX (x.l.take (i + 1))) := by unfold dueR; rw [if_neg hnz]
    have hb2 : 0 ≤ dueF x.w x.s (waitX (x.l.take (i + 1))) ∧ dueF x.w x.s (waitX (x.l.take (i + 1))) ≤ 18446744073709551615 := by rw [hfs]; omega
    have hcase : (waitX (x.l.take i) = [] ∧ dueR x.w x.s (waitX (x.l.take i)) = 0 ∧ dueF x.w x.s (waitX (x.l.take i)) = 18446744073709551615) ∨ (waitX (x.l.take i) ≠ [] ∧ dueR x.w x.s (waitX (x.l.take i)) = dueF x.w x.s (waitX (x.l.take i))) := by
      by_cases h : waitX (x.l.take i) = []
      · refine .inl ⟨h, ?_, ?_⟩
        · unfold dueR; rw [if_pos h]
        · rw [h]; rfl
      · refine .inr ⟨h, ?_⟩
        unfold dueR; rw [if_neg h]
    have hkeep : ∀ (E' : List (Nat × Value)) (v : Int), v = dueF x.w x.s (waitX (x.l.take (i + 1))) → (∀ k u, lk [(1, .pointer (some ⟨r1, 0, none⟩)), (4, .int .u64 v), (5, .bool true), (6, .int .i64 ((i + 1 : Nat) : Int))] k = some u → lk E' k = some u) → ∀ k u, lk [(1, .pointer (some ⟨r1, 0, none⟩)), (4, .int .u64 (dueR x.w x.s (waitX (x.l.take (i + 1))))), (5, .bool (decide (waitX (x.l.take (i + 1)) ≠ []))), (6, .int .i64 ((i + 1 : Nat) : Int))] k = some u → lk E' k = some u := fun E' v hv h => by
      rw [hR2, decide_eq_true hnz, ← hv]; exact h
    generalize lastA eask = la at *
    have hw2 : x.w ≤ 18446744073709551615 := hw.2
    have hw1 : 1 ≤ x.w := hw.1
    generalize hxw : x.w = w at *
    by_cases ov : la + w ≤ 18446744073709551615
    · rcases hcase with ⟨h1, h2, h3⟩ | ⟨h1, h2⟩
      · rw [h2, decide_eq_false (not_not_intro h1)]
        rw [h3] at hfs
        focus
          refine xc_seq ?_
          refine xc_seq ?_
          refine xc_region ?_
          refine xo_rd (rd_move rfl) rfl ?_
          refine xo_rd (rd_fieldAddr rfl) rfl ?_
          refine xo_rd (rd_cast (v' := .slice (some ⟨b, o, none⟩) x.l.length x.c) (rd_load1 rfl (Cl.own (i := 1) List.mem_cons_self rfl)) (by rw [← hp]; rfl)) rfl ?_
          refine xo_rd (rd_len rfl) rfl ?_
          refine xo_rd (rd_lss rfl rfl) rfl ?_
          refine xo_nil ?_
          refine xq_seq ?_
          refine xc_dec rfl (fun hz1 => ?_) (fun hz1 => (by exfalso; omega))
          refine xc_skip ?_
          refine xq_seq ?_
          refine xc_seq ?_
          refine xc_block ?_
          refine xc_seq ?_
          refine xc_region ?_
          refine xo_rd (rd_fieldAddr rfl) rfl ?_
          refine xo_rd (rd_cast (v' := .slice (some ⟨b, o, none⟩) x.l.length x.c) (rd_load1 rfl (Cl.own (i := 1) List.mem_cons_self rfl)) (by rw [← hp]; rfl)) rfl ?_
          refine xo_rd (rd_move rfl) rfl ?_
          refine xo_rd (rd_indexAddr rfl rfl (by omega) (by omega)) rfl ?_
          refine xo_rd (rd_loadA (vs := rxE eid (some ⟨b1, o1, none⟩) eask.length ec true) rfl rfl (hci2 _ (by intro z hz; simp [hz]))) rfl ?_
          refine xo_ef rfl (ef_alloc fun r7 => ?_)
          refine xo_ef rfl (ef_storeB [] _ rfl rfl (by first | rfl | assumption) rfl rfl rfl ?_)
          refine xo_nil ?_
          refine xq_seq ?_
          refine xc_seq ?_
          refine xc_seq ?_
          refine xc_region ?_
          refine xo_rd (rd_fieldAddr rfl) rfl ?_
          refine xo_rd (rd_load1 rfl (Cl.o0 rfl)) rfl ?_
          refine xo_rd (rd_not rfl) rfl ?_
          refine xo_rd (rd_move rfl) rfl ?_
          refine xo_grd rfl rfl (rd_fieldAddr rfl) rfl ?_
          refine xo_grd rfl rfl (rd_load1 rfl (Cl.o0 rfl)) rfl ?_
          refine xo_grd rfl rfl (rd_len rfl) rfl ?_
          refine xo_grd rfl rfl (rd_eql rfl rfl) rfl ?_
          refine xo_rd (rd_pickf rfl rfl) rfl ?_
          refine xo_nil ?_
          refine xq_seq ?_
          refine xc_dec rfl (fun hz2 => (by exfalso; omega)) (fun hz2 => ?_)
          refine xc_skip ?_
          refine xq_seq ?_
          refine xc_seq ?_
          refine xc_drawM [0, 1, 0, 4, 8, 16, 34, 64, 0, 256, 640, 2047] [0, 1, 0, 4, 8, 16, 34, 64, 0, 256, 640, 2047] ((r7, Obj.cells (rxE eid (some ⟨b1, o1, none⟩) eask.length ec true).toArray 76 (0, 0)) :: (r1, Obj.cells x.enc.toArray 57 (0, 0)) :: L) (by kernel_rfl) (by kernel_rfl) (by kernel_rfl) ?_
          refine xm_take 0 (m' := 1) rfl (by kernel_rfl) Sb.a (rd_fieldAddr rfl) rfl (by kernel_rfl) ?_
          refine xm_take 1 (m' := 3) rfl (by kernel_rfl) Sb.a (rd_load1 rfl (Cl.o0 rfl)) rfl (by kernel_rfl) ?_
          refine xm_take 2 (m' := 7) rfl (by kernel_rfl) Sb.a (rd_fieldAddr rfl) rfl (by kernel_rfl) ?_
          refine xm_take 3 (m' := 15) rfl (by kernel_rfl) Sb.a (rd_load1 rfl (Cl.o0 rfl)) rfl (by kernel_rfl) ?_
          refine xm_take 4 (m' := 31) rfl (by kernel_rfl) Sb.a (rd_len rfl) rfl (by kernel_rfl) ?_
          refine xm_take 5 (m' := 63) rfl (by kernel_rfl) Sb.a (rd_subn rfl rfl (by omega) (by omega)) rfl (by kernel_rfl) ?_
          refine xm_take 6 (m' := 127) rfl (by kernel_rfl) Sb.a (rd_indexAddr rfl rfl (by omega) (by omega)) rfl (by kernel_rfl) ?_
          refine xm_take 7 (m' := 255) rfl (by kernel_rfl) Sb.a (rd_load1 rfl (hcl2 _ (by intro z hz; simp [hz]))) rfl (by kernel_rfl) ?_
          refine xm_take 8 (m' := 511) rfl (by kernel_rfl) Sb.a (rd_fieldAddr rfl) rfl (by kernel_rfl) ?_
          refine xm_take 9 (m' := 1023) rfl (by kernel_rfl) Sb.a (rd_cast (v' := .int .u64 w) (rd_load1 rfl (Cl.own (i := 0) (List.mem_cons_of_mem _ List.mem_cons_self) rfl)) (by rw [← hxw]; rfl)) rfl (by kernel_rfl) ?_
          refine xm_take 10 (m' := 2047) rfl (by kernel_rfl) Sb.a (rd_addn rfl rfl (by omega) (by omega)) rfl (by kernel_rfl) ?_
          refine xm_take 11 (m' := 4095) rfl (by kernel_rfl) Sb.a (rd_assign rfl) rfl (by kernel_rfl) ?_
          refine xm_done (by kernel_rfl) ?_
          refine xq_seq ?_
          refine xc_seq ?_
          refine xc_seq ?_
          refine xc_region ?_
          refine xo_rd (rd_move rfl) rfl ?_
          refine xo_rd (rd_fieldAddr rfl) rfl ?_
          refine xo_rd (rd_cast (v' := .int .u64 w) (rd_load1 rfl (Cl.own (i := 0) (List.mem_cons_of_mem _ List.mem_cons_self) rfl)) (by rw [← hxw]; rfl)) rfl ?_
          refine xo_rd (rd_lss rfl rfl) rfl ?_
          refine xo_nil ?_
          refine xq_seq ?_
          refine xc_dec rfl (fun hz3 => (by exfalso; omega)) (fun hz3 => ?_)
          refine xc_skip ?_
          refine xq_seq ?_
          refine xc_seq ?_
          refine xc_seq ?_
          refine xc_region ?_
          refine xo_rd (rd_move rfl) rfl ?_
          refine xo_rd (rd_not rfl) rfl ?_
          refine xo_rd (rd_move rfl) rfl ?_
          refine xo_gskip rfl rfl rfl rfl ?_
          refine xo_gskip rfl rfl rfl rfl ?_
          refine xo_gskip rfl rfl rfl rfl ?_
          refine xo_rd (rd_pickt rfl rfl) rfl ?_
          refine xo_nil ?_
          refine xq_seq ?_
          refine xc_condt rfl ?_
          refine xc_region ?_
          refine xo_rd (rd_move rfl) rfl ?_
          refine xo_rd (rd_assign rfl) rfl ?_
          refine xo_nil ?_
          refine xq_seq ?_
          refine xc_region ?_
          refine xo_rd (rd_assign rfl) rfl ?_
          refine xo_nil ?_
          refine xq_block ?_
          refine xq_seq ?_
          refine xc_region ?_
          refine xo_rd (rd_move rfl) rfl ?_
          refine xo_rd (rd_addn rfl rfl (by omega) (by omega)) rfl ?_
          refine xo_rd (rd_assign rfl) rfl ?_
          refine xo_nil ?_
        all_goals exact xq_roundK rfl (i + 1) ⟨by omega, hb2⟩ (by omega) (List.sublist_cons_self _ _) (hkeep _ (la + w) (by omega) (by repeat (first | exact keep_nil | refine keep_cons rfl ?_)))
      · rw [h2, decide_eq_true h1]
        generalize dueF w x.s (waitX (x.l.take i)) = D at *
        by_cases hlt : la + w < D
        · skip
          focus
            refine xc_seq ?_
            refine xc_seq ?_
            refine xc_region ?_
            refine xo_rd (rd_move rfl) rfl ?_
            refine xo_rd (rd_fieldAddr rfl) rfl ?_
            refine xo_rd (rd_cast (v' := .slice (some ⟨b, o, none⟩) x.l.length x.c) (rd_load1 rfl (Cl.own (i := 1) List.mem_cons_self rfl)) (by rw [← hp]; rfl)) rfl ?_
            refine xo_rd (rd_len rfl) rfl ?_
            refine xo_rd (rd_lss rfl rfl) rfl ?_
            refine xo_nil ?_
            refine xq_seq ?_
            refine xc_dec rfl (fun hz1 => ?_) (fun hz1 => (by exfalso; omega))
            refine xc_skip ?_
            refine xq_seq ?_
            refine xc_seq ?_
            refine xc_block ?_
            refine xc_seq ?_
            refine xc_region ?_
            refine xo_rd (rd_fieldAddr rfl) rfl ?_
            refine xo_rd (rd_cast (v' := .slice (some ⟨b, o, none⟩) x.l.length x.c) (rd_load1 rfl (Cl.own (i := 1) List.mem_cons_self rfl)) (by rw [← hp]; rfl)) rfl ?_
            refine xo_rd (rd_move rfl) rfl ?_
            refine xo_rd (rd_indexAddr rfl rfl (by omega) (by omega)) rfl ?_
            refine xo_rd (rd_loadA (vs := rxE eid (some ⟨b1, o1, none⟩) eask.length ec true) rfl rfl (hci2 _ (by intro z hz; simp [hz]))) rfl ?_
            refine xo_ef rfl (ef_alloc fun r7 => ?_)
            refine xo_ef rfl (ef_storeB [] _ rfl rfl (by first | rfl | assumption) rfl rfl rfl ?_)
            refine xo_nil ?_
            refine xq_seq ?_
            refine xc_seq ?_
            refine xc_seq ?_
            refine xc_region ?_
            refine xo_rd (rd_fieldAddr rfl) rfl ?_
            refine xo_rd (rd_load1 rfl (Cl.o0 rfl)) rfl ?_
            refine xo_rd (rd_not rfl) rfl ?_
            refine xo_rd (rd_move rfl) rfl ?_
            refine xo_grd rfl rfl (rd_fieldAddr rfl) rfl ?_
            refine xo_grd rfl rfl (rd_load1 rfl (Cl.o0 rfl)) rfl ?_
            refine xo_grd rfl rfl (rd_len rfl) rfl ?_
            refine xo_grd rfl rfl (rd_eql rfl rfl) rfl ?_
            refine xo_rd (rd_pickf rfl rfl) rfl ?_
            refine xo_nil ?_
            refine xq_seq ?_
            refine xc_dec rfl (fun hz2 => (by exfalso; omega)) (fun hz2 => ?_)
            refine xc_skip ?_
            refine xq_seq ?_
            refine xc_seq ?_
            refine xc_drawM [0, 1, 0, 4, 8, 16, 34, 64, 0, 256, 640, 2047] [0, 1, 0, 4, 8, 16, 34, 64, 0, 256, 640, 2047] ((r7, Obj.cells (rxE eid (some ⟨b1, o1, none⟩) eask.length ec true).toArray 76 (0, 0)) :: (r1, Obj.cells x.enc.toArray 57 (0, 0)) :: L) (by kernel_rfl) (by kernel_rfl) (by kernel_rfl) ?_
            refine xm_take 0 (m' := 1) rfl (by kernel_rfl) Sb.a (rd_fieldAddr rfl) rfl (by kernel_rfl) ?_
            refine xm_take 1 (m' := 3) rfl (by kernel_rfl) Sb.a (rd_load1 rfl (Cl.o0 rfl)) rfl (by kernel_rfl) ?_
            refine xm_take 2 (m' := 7) rfl (by kernel_rfl) Sb.a (rd_fieldAddr rfl) rfl (by kernel_rfl) ?_
            refine xm_take 3 (m' := 15) rfl (by kernel_rfl) Sb.a (rd_load1 rfl (Cl.o0 rfl)) rfl (by kernel_rfl) ?_
            refine xm_take 4 (m' := 31) rfl (by kernel_rfl) Sb.a (rd_len rfl) rfl (by kernel_rfl) ?_
            refine xm_take 5 (m' := 63) rfl (by kernel_rfl) Sb.a (rd_subn rfl rfl (by omega) (by omega)) rfl (by kernel_rfl) ?_
            refine xm_take 6 (m' := 127) rfl (by kernel_rfl) Sb.a (rd_indexAddr rfl rfl (by omega) (by omega)) rfl (by kernel_rfl) ?_
            refine xm_take 7 (m' := 255) rfl (by kernel_rfl) Sb.a (rd_load1 rfl (hcl2 _ (by intro z hz; simp [hz]))) rfl (by kernel_rfl) ?_
            refine xm_take 8 (m' := 511) rfl (by kernel_rfl) Sb.a (rd_fieldAddr rfl) rfl (by kernel_rfl) ?_
            refine xm_take 9 (m' := 1023) rfl (by kernel_rfl) Sb.a (rd_cast (v' := .int .u64 w) (rd_load1 rfl (Cl.own (i := 0) (List.mem_cons_of_mem _ List.mem_cons_self) rfl)) (by rw [← hxw]; rfl)) rfl (by kernel_rfl) ?_
            refine xm_take 10 (m' := 2047) rfl (by kernel_rfl) Sb.a (rd_addn rfl rfl (by omega) (by omega)) rfl (by kernel_rfl) ?_
            refine xm_take 11 (m' := 4095) rfl (by kernel_rfl) Sb.a (rd_assign rfl) rfl (by kernel_rfl) ?_
            refine xm_done (by kernel_rfl) ?_
            refine xq_seq ?_
            refine xc_seq ?_
            refine xc_seq ?_
            refine xc_region ?_
            refine xo_rd (rd_move rfl) rfl ?_
            refine xo_rd (rd_fieldAddr rfl) rfl ?_
            refine xo_rd (rd_cast (v' := .int .u64 w) (rd_load1 rfl (Cl.own (i := 0) (List.mem_cons_of_mem _ List.mem_cons_self) rfl)) (by rw [← hxw]; rfl)) rfl ?_
            refine xo_rd (rd_lss rfl rfl) rfl ?_
            refine xo_nil ?_
            refine xq_seq ?_
            refine xc_dec rfl (fun hz3 => (by exfalso; omega)) (fun hz3 => ?_)
            refine xc_skip ?_
            refine xq_seq ?_
            refine xc_seq ?_
            refine xc_seq ?_
            refine xc_region ?_
            refine xo_rd (rd_move rfl) rfl ?_
            refine xo_rd (rd_not rfl) rfl ?_
            refine xo_rd (rd_move rfl) rfl ?_
            refine xo_grd rfl rfl (rd_move rfl) rfl ?_
            refine xo_grd rfl rfl (rd_move rfl) rfl ?_
            refine xo_grd rfl rfl (rd_lss rfl rfl) rfl ?_
            refine xo_rd (rd_pickf rfl rfl) rfl ?_
            refine xo_nil ?_
            refine xq_seq ?_
            refine xc_dec rfl (fun hz4 => ?_) (fun hz4 => (by exfalso; omega))
            refine xc_region ?_
            refine xo_rd (rd_move rfl) rfl ?_
            refine xo_rd (rd_assign rfl) rfl ?_
            refine xo_nil ?_
            refine xq_seq ?_
            refine xc_region ?_
            refine xo_rd (rd_assign rfl) rfl ?_
            refine xo_nil ?_
            refine xq_block ?_
            refine xq_seq ?_
            refine xc_region ?_
            refine xo_rd (rd_move rfl) rfl ?_
            refine xo_rd (rd_addn rfl rfl (by omega) (by omega)) rfl ?_
            refine xo_rd (rd_assign rfl) rfl ?_
            refine xo_nil ?_
          all_goals exact xq_roundK rfl (i + 1) ⟨by omega, hb2⟩ (by omega) (List.sublist_cons_self _ _) (hkeep _ (la + w) (by omega) (by repeat (first | exact keep_nil | refine keep_cons rfl ?_)))
        · skip
          focus
            refine xc_seq ?_
            refine xc_seq ?_
            refine xc_region ?_
            refine xo_rd (rd_move rfl) rfl ?_
            refine xo_rd (rd_fieldAddr rfl) rfl ?_
            refine xo_rd (rd_cast (v' := .slice (some ⟨b, o, none⟩) x.l.length x.c) (rd_load1 rfl (Cl.own (i := 1) List.mem_cons_self rfl)) (by rw [← hp]; rfl)) rfl ?_
            refine xo_rd (rd_len rfl) rfl ?_
            refine xo_rd (rd_lss rfl rfl) rfl ?_
            refine xo_nil ?_
            refine xq_seq ?_
            refine xc_dec rfl (fun hz1 => ?_) (fun hz1 => (by exfalso; omega))
            refine xc_skip ?_
            refine xq_seq ?_
            refine xc_seq ?_
            refine xc_block ?_
            refine xc_seq ?_
            refine xc_region ?_
            refine xo_rd (rd_fieldAddr rfl) rfl ?_
            refine xo_rd (rd_cast (v' := .slice (some ⟨b, o, none⟩) x.l.length x.c) (rd_load1 rfl (Cl.own (i := 1) List.mem_cons_self rfl)) (by rw [← hp]; rfl)) rfl ?_
            refine xo_rd (rd_move rfl) rfl ?_
            refine xo_rd (rd_indexAddr rfl rfl (by omega) (by omega)) rfl ?_
            refine xo_rd (rd_loadA (vs := rxE eid (some ⟨b1, o1, none⟩) eask.length ec true) rfl rfl (hci2 _ (by intro z hz; simp [hz]))) rfl ?_
            refine xo_ef rfl (ef_alloc fun r7 => ?_)
            refine xo_ef rfl (ef_storeB [] _ rfl rfl (by first | rfl | assumption) rfl rfl rfl ?_)
            refine xo_nil ?_
            refine xq_seq ?_
            refine xc_seq ?_
            refine xc_seq ?_
            refine xc_region ?_
            refine xo_rd (rd_fieldAddr rfl) rfl ?_
            refine xo_rd (rd_load1 rfl (Cl.o0 rfl)) rfl ?_
            refine xo_rd (rd_not rfl) rfl ?_
            refine xo_rd (rd_move rfl) rfl ?_
            refine xo_grd rfl rfl (rd_fieldAddr rfl) rfl ?_
            refine xo_grd rfl rfl (rd_load1 rfl (Cl.o0 rfl)) rfl ?_
            refine xo_grd rfl rfl (rd_len rfl) rfl ?_
            refine xo_grd rfl rfl (rd_eql rfl rfl) rfl ?_
            refine xo_rd (rd_pickf rfl rfl) rfl ?_
            refine xo_nil ?_
            refine xq_seq ?_
            refine xc_dec rfl (fun hz2 => (by exfalso; omega)) (fun hz2 => ?_)
            refine xc_skip ?_
            refine xq_seq ?_
            refine xc_seq ?_
            refine xc_drawM [0, 1, 0, 4, 8, 16, 34, 64, 0, 256, 640, 2047] [0, 1, 0, 4, 8, 16, 34, 64, 0, 256, 640, 2047] ((r7, Obj.cells (rxE eid (some ⟨b1, o1, none⟩) eask.length ec true).toArray 76 (0, 0)) :: (r1, Obj.cells x.enc.toArray 57 (0, 0)) :: L) (by kernel_rfl) (by kernel_rfl) (by kernel_rfl) ?_
            refine xm_take 0 (m' := 1) rfl (by kernel_rfl) Sb.a (rd_fieldAddr rfl) rfl (by kernel_rfl) ?_
            refine xm_take 1 (m' := 3) rfl (by kernel_rfl) Sb.a (rd_load1 rfl (Cl.o0 rfl)) rfl (by kernel_rfl) ?_
            refine xm_take 2 (m' := 7) rfl (by kernel_rfl) Sb.a (rd_fieldAddr rfl) rfl (by kernel_rfl) ?_
            refine xm_take 3 (m' := 15) rfl (by kernel_rfl) Sb.a (rd_load1 rfl (Cl.o0 rfl)) rfl (by kernel_rfl) ?_
            refine xm_take 4 (m' := 31) rfl (by kernel_rfl) Sb.a (rd_len rfl) rfl (by kernel_rfl) ?_
            refine xm_take 5 (m' := 63) rfl (by kernel_rfl) Sb.a (rd_subn rfl rfl (by omega) (by omega)) rfl (by kernel_rfl) ?_
            refine xm_take 6 (m' := 127) rfl (by kernel_rfl) Sb.a (rd_indexAddr rfl rfl (by omega) (by omega)) rfl (by kernel_rfl) ?_
            refine xm_take 7 (m' := 255) rfl (by kernel_rfl) Sb.a (rd_load1 rfl (hcl2 _ (by intro z hz; simp [hz]))) rfl (by kernel_rfl) ?_
            refine xm_take 8 (m' := 511) rfl (by kernel_rfl) Sb.a (rd_fieldAddr rfl) rfl (by kernel_rfl) ?_
            refine xm_take 9 (m' := 1023) rfl (by kernel_rfl) Sb.a (rd_cast (v' := .int .u64 w) (rd_load1 rfl (Cl.own (i := 0) (List.mem_cons_of_mem _ List.mem_cons_self) rfl)) (by rw [← hxw]; rfl)) rfl (by kernel_rfl) ?_
            refine xm_take 10 (m' := 2047) rfl (by kernel_rfl) Sb.a (rd_addn rfl rfl (by omega) (by omega)) rfl (by kernel_rfl) ?_
            refine xm_take 11 (m' := 4095) rfl (by kernel_rfl) Sb.a (rd_assign rfl) rfl (by kernel_rfl) ?_
            refine xm_done (by kernel_rfl) ?_
            refine xq_seq ?_
            refine xc_seq ?_
            refine xc_seq ?_
            refine xc_region ?_
            refine xo_rd (rd_move rfl) rfl ?_
            refine xo_rd (rd_fieldAddr rfl) rfl ?_
            refine xo_rd (rd_cast (v' := .int .u64 w) (rd_load1 rfl (Cl.own (i := 0) (List.mem_cons_of_mem _ List.mem_cons_self) rfl)) (by rw [← hxw]; rfl)) rfl ?_
            refine xo_rd (rd_lss rfl rfl) rfl ?_
            refine xo_nil ?_
            refine xq_seq ?_
            refine xc_dec rfl (fun hz3 => (by exfalso; omega)) (fun hz3 => ?_)
            refine xc_skip ?_
            refine xq_seq ?_
            refine xc_seq ?_
            refine xc_seq ?_
            refine xc_region ?_
            refine xo_rd (rd_move rfl) rfl ?_
            refine xo_rd (rd_not rfl) rfl ?_
            refine xo_rd (rd_move rfl) rfl ?_
            refine xo_grd rfl rfl (rd_move rfl) rfl ?_
            refine xo_grd rfl rfl (rd_move rfl) rfl ?_
            refine xo_grd rfl rfl (rd_lss rfl rfl) rfl ?_
            refine xo_rd (rd_pickf rfl rfl) rfl ?_
            refine xo_nil ?_
            refine xq_seq ?_
            refine xc_dec rfl (fun hz4 => (by exfalso; omega)) (fun hz4 => ?_)
            refine xc_skip ?_
            refine xq_seq ?_
            refine xc_region ?_
            refine xo_rd (rd_assign rfl) rfl ?_
            refine xo_nil ?_
            refine xq_block ?_
            refine xq_seq ?_
            refine xc_region ?_
            refine xo_rd (rd_move rfl) rfl ?_
            refine xo_rd (rd_addn rfl rfl (by omega) (by omega)) rfl ?_
            refine xo_rd (rd_assign rfl) rfl ?_
            refine xo_nil ?_
          all_goals exact xq_roundK rfl (i + 1) ⟨by omega, hb2⟩ (by omega) (List.sublist_cons_self _ _) (hkeep _ (D) (by omega) (by repeat (first | exact keep_nil | refine keep_cons rfl ?_)))
    · rcases hcase with ⟨h1, h2, h3⟩ | ⟨h1, h2⟩
      · rw [h2, decide_eq_false (not_not_intro h1)]
        rw [h3] at hfs
        focus
          refine xc_seq ?_
          refine xc_seq ?_
          refine xc_region ?_
          refine xo_rd (rd_move rfl) rfl ?_
          refine xo_rd (rd_fieldAddr rfl) rfl ?_
          refine xo_rd (rd_cast (v' := .slice (some ⟨b, o, none⟩) x.l.length x.c) (rd_load1 rfl (Cl.own (i := 1) List.mem_cons_self rfl)) (by rw [← hp]; rfl)) rfl ?_
          refine xo_rd (rd_len rfl) rfl ?_
          refine xo_rd (rd_lss rfl rfl) rfl ?_
          refine xo_nil ?_
          refine xq_seq ?_
          refine xc_dec rfl (fun hz1 => ?_) (fun hz1 => (by exfalso; omega))
          refine xc_skip ?_
          refine xq_seq ?_
          refine xc_seq ?_
          refine xc_block ?_
          refine xc_seq ?_
          refine xc_region ?_
          refine xo_rd (rd_fieldAddr rfl) rfl ?_
          refine xo_rd (rd_cast (v' := .slice (some ⟨b, o, none⟩) x.l.length x.c) (rd_load1 rfl (Cl.own (i := 1) List.mem_cons_self rfl)) (by rw [← hp]; rfl)) rfl ?_
          refine xo_rd (rd_move rfl) rfl ?_
          refine xo_rd (rd_indexAddr rfl rfl (by omega) (by omega)) rfl ?_
          refine xo_rd (rd_loadA (vs := rxE eid (some ⟨b1, o1, none⟩) eask.length ec true) rfl rfl (hci2 _ (by intro z hz; simp [hz]))) rfl ?_
          refine xo_ef rfl (ef_alloc fun r7 => ?_)
          refine xo_ef rfl (ef_storeB [] _ rfl rfl (by first | rfl | assumption) rfl rfl rfl ?_)
          refine xo_nil ?_
          refine xq_seq ?_
          refine xc_seq ?_
          refine xc_seq ?_
          refine xc_region ?_
          refine xo_rd (rd_fieldAddr rfl) rfl ?_
          refine xo_rd (rd_load1 rfl (Cl.o0 rfl)) rfl ?_
          refine xo_rd (rd_not rfl) rfl ?_
          refine xo_rd (rd_move rfl) rfl ?_
          refine xo_grd rfl rfl (rd_fieldAddr rfl) rfl ?_
          refine xo_grd rfl rfl (rd_load1 rfl (Cl.o0 rfl)) rfl ?_
          refine xo_grd rfl rfl (rd_len rfl) rfl ?_
          refine xo_grd rfl rfl (rd_eql rfl rfl) rfl ?_
          refine xo_rd (rd_pickf rfl rfl) rfl ?_
          refine xo_nil ?_
          refine xq_seq ?_
          refine xc_dec rfl (fun hz2 => (by exfalso; omega)) (fun hz2 => ?_)
          refine xc_skip ?_
          refine xq_seq ?_
          refine xc_seq ?_
          refine xc_drawM [0, 1, 0, 4, 8, 16, 34, 64, 0, 256, 640, 2047] [0, 1, 0, 4, 8, 16, 34, 64, 0, 256, 640, 2047] ((r7, Obj.cells (rxE eid (some ⟨b1, o1, none⟩) eask.length ec true).toArray 76 (0, 0)) :: (r1, Obj.cells x.enc.toArray 57 (0, 0)) :: L) (by kernel_rfl) (by kernel_rfl) (by kernel_rfl) ?_
          refine xm_take 0 (m' := 1) rfl (by kernel_rfl) Sb.a (rd_fieldAddr rfl) rfl (by kernel_rfl) ?_
          refine xm_take 1 (m' := 3) rfl (by kernel_rfl) Sb.a (rd_load1 rfl (Cl.o0 rfl)) rfl (by kernel_rfl) ?_
          refine xm_take 2 (m' := 7) rfl (by kernel_rfl) Sb.a (rd_fieldAddr rfl) rfl (by kernel_rfl) ?_
          refine xm_take 3 (m' := 15) rfl (by kernel_rfl) Sb.a (rd_load1 rfl (Cl.o0 rfl)) rfl (by kernel_rfl) ?_
          refine xm_take 4 (m' := 31) rfl (by kernel_rfl) Sb.a (rd_len rfl) rfl (by kernel_rfl) ?_
          refine xm_take 5 (m' := 63) rfl (by kernel_rfl) Sb.a (rd_subn rfl rfl (by omega) (by omega)) rfl (by kernel_rfl) ?_
          refine xm_take 6 (m' := 127) rfl (by kernel_rfl) Sb.a (rd_indexAddr rfl rfl (by omega) (by omega)) rfl (by kernel_rfl) ?_
          refine xm_take 7 (m' := 255) rfl (by kernel_rfl) Sb.a (rd_load1 rfl (hcl2 _ (by intro z hz; simp [hz]))) rfl (by kernel_rfl) ?_
          refine xm_take 8 (m' := 511) rfl (by kernel_rfl) Sb.a (rd_fieldAddr rfl) rfl (by kernel_rfl) ?_
          refine xm_take 9 (m' := 1023) rfl (by kernel_rfl) Sb.a (rd_cast (v' := .int .u64 w) (rd_load1 rfl (Cl.own (i := 0) (List.mem_cons_of_mem _ List.mem_cons_self) rfl)) (by rw [← hxw]; rfl)) rfl (by kernel_rfl) ?_
          refine xm_take 10 (m' := 2047) rfl (by kernel_rfl) Sb.a (rd_cast (v' := .int .u64 (la + w - 18446744073709551616)) (rd_add rfl rfl) (by rw [wrap_u64]; congr 1; omega)) rfl (by kernel_rfl) ?_
          refine xm_take 11 (m' := 4095) rfl (by kernel_rfl) Sb.a (rd_assign rfl) rfl (by kernel_rfl) ?_
          refine xm_done (by kernel_rfl) ?_
          refine xq_seq ?_
          refine xc_seq ?_
          refine xc_seq ?_
          refine xc_region ?_
          refine xo_rd (rd_move rfl) rfl ?_
          refine xo_rd (rd_fieldAddr rfl) rfl ?_
          refine xo_rd (rd_cast (v' := .int .u64 w) (rd_load1 rfl (Cl.own (i := 0) (List.mem_cons_of_mem _ List.mem_cons_self) rfl)) (by rw [← hxw]; rfl)) rfl ?_
          refine xo_rd (rd_lss rfl rfl) rfl ?_
          refine xo_nil ?_
          refine xq_seq ?_
          refine xc_dec rfl (fun hz3 => ?_) (fun hz3 => (by exfalso; omega))
          refine xc_region ?_
          refine xo_rd (rd_assign rfl) rfl ?_
          refine xo_nil ?_
          refine xq_seq ?_
          refine xc_seq ?_
          refine xc_seq ?_
          refine xc_region ?_
          refine xo_rd (rd_move rfl) rfl ?_
          refine xo_rd (rd_not rfl) rfl ?_
          refine xo_rd (rd_move rfl) rfl ?_
          refine xo_gskip rfl rfl rfl rfl ?_
          refine xo_gskip rfl rfl rfl rfl ?_
          refine xo_gskip rfl rfl rfl rfl ?_
          refine xo_rd (rd_pickt rfl rfl) rfl ?_
          refine xo_nil ?_
          refine xq_seq ?_
          refine xc_condt rfl ?_
          refine xc_region ?_
          refine xo_rd (rd_move rfl) rfl ?_
          refine xo_rd (rd_assign rfl) rfl ?_
          refine xo_nil ?_
          refine xq_seq ?_
          refine xc_region ?_
          refine xo_rd (rd_assign rfl) rfl ?_
          refine xo_nil ?_
          refine xq_block ?_
          refine xq_seq ?_
          refine xc_region ?_
          refine xo_rd (rd_move rfl) rfl ?_
          refine xo_rd (rd_addn rfl rfl (by omega) (by omega)) rfl ?_
          refine xo_rd (rd_assign rfl) rfl ?_
          refine xo_nil ?_
        all_goals exact xq_roundK rfl (i + 1) ⟨by omega, hb2⟩ (by omega) (List.sublist_cons_self _ _) (hkeep _ (18446744073709551615) (by omega) (by repeat (first | exact keep_nil | refine keep_cons rfl ?_)))
      · rw [h2, decide_eq_true h1]
        generalize dueF w x.s (waitX (x.l.take i)) = D at *
        by_cases hlt : 18446744073709551615 < D
        · omega
        · skip
          focus
            refine xc_seq ?_
            refine xc_seq ?_
            refine xc_region ?_
            refine xo_rd (rd_move rfl) rfl ?_
            refine xo_rd (rd_fieldAddr rfl) rfl ?_
            refine xo_rd (rd_cast (v' := .slice (some ⟨b, o, none⟩) x.l.length x.c) (rd_load1 rfl (Cl.own (i := 1) List.mem_cons_self rfl)) (by rw [← hp]; rfl)) rfl ?_
            refine xo_rd (rd_len rfl) rfl ?_
            refine xo_rd (rd_lss rfl rfl) rfl ?_
            refine xo_nil ?_
            refine xq_seq ?_
            refine xc_dec rfl (fun hz1 => ?_) (fun hz1 => (by exfalso; omega))
            refine xc_skip ?_
            refine xq_seq ?_
            refine xc_seq ?_
            refine xc_block ?_
            refine xc_seq ?_
            refine xc_region ?_
            refine xo_rd (rd_fieldAddr rfl) rfl ?_
            refine xo_rd (rd_cast (v' := .slice (some ⟨b, o, none⟩) x.l.length x.c) (rd_load1 rfl (Cl.own (i := 1) List.mem_cons_self rfl)) (by rw [← hp]; rfl)) rfl ?_
            refine xo_rd (rd_move rfl) rfl ?_
            refine xo_rd (rd_indexAddr rfl rfl (by omega) (by omega)) rfl ?_
            refine xo_rd (rd_loadA (vs := rxE eid (some ⟨b1, o1, none⟩) eask.length ec true) rfl rfl (hci2 _ (by intro z hz; simp [hz]))) rfl ?_
            refine xo_ef rfl (ef_alloc fun r7 => ?_)
            refine xo_ef rfl (ef_storeB [] _ rfl rfl (by first | rfl | assumption) rfl rfl rfl ?_)
            refine xo_nil ?_
            refine xq_seq ?_
            refine xc_seq ?_
            refine xc_seq ?_
            refine xc_region ?_
            refine xo_rd (rd_fieldAddr rfl) rfl ?_
            refine xo_rd (rd_load1 rfl (Cl.o0 rfl)) rfl ?_
            refine xo_rd (rd_not rfl) rfl ?_
            refine xo_rd (rd_move rfl) rfl ?_
            refine xo_grd rfl rfl (rd_fieldAddr rfl) rfl ?_
            refine xo_grd rfl rfl (rd_load1 rfl (Cl.o0 rfl)) rfl ?_
            refine xo_grd rfl rfl (rd_len rfl) rfl ?_
            refine xo_grd rfl rfl (rd_eql rfl rfl) rfl ?_
            refine xo_rd (rd_pickf rfl rfl) rfl ?_
            refine xo_nil ?_
            refine xq_seq ?_
            refine xc_dec rfl (fun hz2 => (by exfalso; omega)) (fun hz2 => ?_)
            refine xc_skip ?_
            refine xq_seq ?_
            refine xc_seq ?_
            refine xc_drawM [0, 1, 0, 4, 8, 16, 34, 64, 0, 256, 640, 2047] [0, 1, 0, 4, 8, 16, 34, 64, 0, 256, 640, 2047] ((r7, Obj.cells (rxE eid (some ⟨b1, o1, none⟩) eask.length ec true).toArray 76 (0, 0)) :: (r1, Obj.cells x.enc.toArray 57 (0, 0)) :: L) (by kernel_rfl) (by kernel_rfl) (by kernel_rfl) ?_
            refine xm_take 0 (m' := 1) rfl (by kernel_rfl) Sb.a (rd_fieldAddr rfl) rfl (by kernel_rfl) ?_
            refine xm_take 1 (m' := 3) rfl (by kernel_rfl) Sb.a (rd_load1 rfl (Cl.o0 rfl)) rfl (by kernel_rfl) ?_
            refine xm_take 2 (m' := 7) rfl (by kernel_rfl) Sb.a (rd_fieldAddr rfl) rfl (by kernel_rfl) ?_
            refine xm_take 3 (m' := 15) rfl (by kernel_rfl) Sb.a (rd_load1 rfl (Cl.o0 rfl)) rfl (by kernel_rfl) ?_
            refine xm_take 4 (m' := 31) rfl (by kernel_rfl) Sb.a (rd_len rfl) rfl (by kernel_rfl) ?_
            refine xm_take 5 (m' := 63) rfl (by kernel_rfl) Sb.a (rd_subn rfl rfl (by omega) (by omega)) rfl (by kernel_rfl) ?_
            refine xm_take 6 (m' := 127) rfl (by kernel_rfl) Sb.a (rd_indexAddr rfl rfl (by omega) (by omega)) rfl (by kernel_rfl) ?_
            refine xm_take 7 (m' := 255) rfl (by kernel_rfl) Sb.a (rd_load1 rfl (hcl2 _ (by intro z hz; simp [hz]))) rfl (by kernel_rfl) ?_
            refine xm_take 8 (m' := 511) rfl (by kernel_rfl) Sb.a (rd_fieldAddr rfl) rfl (by kernel_rfl) ?_
            refine xm_take 9 (m' := 1023) rfl (by kernel_rfl) Sb.a (rd_cast (v' := .int .u64 w) (rd_load1 rfl (Cl.own (i := 0) (List.mem_cons_of_mem _ List.mem_cons_self) rfl)) (by rw [← hxw]; rfl)) rfl (by kernel_rfl) ?_
            refine xm_take 10 (m' := 2047) rfl (by kernel_rfl) Sb.a (rd_cast (v' := .int .u64 (la + w - 18446744073709551616)) (rd_add rfl rfl) (by rw [wrap_u64]; congr 1; omega)) rfl (by kernel_rfl) ?_
            refine xm_take 11 (m' := 4095) rfl (by kernel_rfl) Sb.a (rd_assign rfl) rfl (by kernel_rfl) ?_
            refine xm_done (by kernel_rfl) ?_
            refine xq_seq ?_
            refine xc_seq ?_
            refine xc_seq ?_
            refine xc_region ?_
            refine xo_rd (rd_move rfl) rfl ?_
            refine xo_rd (rd_fieldAddr rfl) rfl ?_
            refine xo_rd (rd_cast (v' := .int .u64 w) (rd_load1 rfl (Cl.own (i := 0) (List.mem_cons_of_mem _ List.mem_cons_self) rfl)) (by rw [← hxw]; rfl)) rfl ?_
            refine xo_rd (rd_lss rfl rfl) rfl ?_
            refine xo_nil ?_
            refine xq_seq ?_
            refine xc_dec rfl (fun hz3 => ?_) (fun hz3 => (by exfalso; omega))
            refine xc_region ?_
            refine xo_rd (rd_assign rfl) rfl ?_
            refine xo_nil ?_
            refine xq_seq ?_
            refine xc_seq ?_
            refine xc_seq ?_
            refine xc_region ?_
            refine xo_rd (rd_move rfl) rfl ?_
            refine xo_rd (rd_not rfl) rfl ?_
            refine xo_rd (rd_move rfl) rfl ?_
            refine xo_grd rfl rfl (rd_move rfl) rfl ?_
            refine xo_grd rfl rfl (rd_move rfl) rfl ?_
            refine xo_grd rfl rfl (rd_lss rfl rfl) rfl ?_
            refine xo_rd (rd_pickf rfl rfl) rfl ?_
            refine xo_nil ?_
            refine xq_seq ?_
            refine xc_dec rfl (fun hz4 => (by exfalso; omega)) (fun hz4 => ?_)
            refine xc_skip ?_
            refine xq_seq ?_
            refine xc_region ?_
            refine xo_rd (rd_assign rfl) rfl ?_
            refine xo_nil ?_
            refine xq_block ?_
            refine xq_seq ?_
            refine xc_region ?_
            refine xo_rd (rd_move rfl) rfl ?_
            refine xo_rd (rd_addn rfl rfl (by omega) (by omega)) rfl ?_
            refine xo_rd (rd_assign rfl) rfl ?_
            refine xo_nil ?_
          all_goals exact xq_roundK rfl (i + 1) ⟨by omega, hb2⟩ (by omega) (List.sublist_cons_self _ _) (hkeep _ (D) (by omega) (by repeat (first | exact keep_nil | refine keep_cons rfl ?_)))
end Go.Proofs.Ytoolgphkfnkajaa.X
/-
  Chapter 23: sources are dropped; a call of both requesters: walks of my own.
-/
namespace Go.Proofs.Ytoolgphkfnkajaa.X
open Go Go.RowKit
set_option linter.unusedVariables false
set_option linter.unusedSimpArgs false
theorem srF_drop (l : List Sr) (a z : Int) : srF (dropL l a) z = if z = a then none else srF l z := by
  induction l with
  | nil => by_cases h : z = a <;> simp [dropL, srF]
  | cons x r ih =>
    have hd : dropL (x :: r) a = if x.id = a then dropL r a else x :: dropL r a := by
      unfold dropL
      rw [List.filter_cons]
      by_cases h : x.id = a <;> simp [h]
    rw [hd, srF_cons]
    by_cases h : x.id = a
    · rw [if_pos h, ih]
      by_cases hz : z = a
      · rw [if_pos hz, if_pos hz]
      · rw [if_neg hz, if_neg hz, if_neg (by rw [h]; exact fun e => hz e.symm)]
    · rw [if_neg h, srF_cons, ih]
      by_cases hz : z = a
      · rw [if_pos hz, if_pos hz, if_neg (by rw [hz]; exact h)]
      · rw [if_neg hz, if_neg hz]
theorem drop_len {l : List Sr} (hp : (l.map Sr.id).Pairwise (· < ·)) (a : Int) : (dropL l a).length = if (srF l a).isSome = true then l.length - 1 else l.length := by
  induction l with
  | nil => rfl
  | cons x r ih =>
    rw [List.map_cons, List.pairwise_cons] at hp
    have hd : dropL (x :: r) a = if x.id = a then dropL r a else x :: dropL r a := by
      unfold dropL
      rw [List.filter_cons]
      by_cases h : x.id = a <;> simp [h]
    rw [hd, srF_cons]
    have h2 := ih hp.2
    by_cases h : x.id = a
    · rw [if_pos h, if_pos h, h2]
      have : (srF r a).isSome = false := by
        cases hs : (srF r a).isSome with
        | false => rfl
        | true => have := hp.1 _ (srF_mem.1 hs); omega
      rw [this]; simp
    · rw [if_neg h, if_neg h, List.length_cons, h2]
      by_cases hs : (srF r a).isSome = true
      · rw [if_pos hs, if_pos hs, List.length_cons]
        have := srF_mem.1 hs
        have : 0 < r.length := by rw [← List.length_map (f := Sr.id)]; exact List.length_pos_of_mem this
        omega
      · rw [if_neg hs, if_neg hs, List.length_cons]
theorem dropL_mem {l : List Sr} {a : Int} {s : Sr} (h : s ∈ dropL l a) : s ∈ l := (List.mem_filter.1 h).1
theorem dropL_two (l : List Sr) (a : Int) : dropL (dropL l a) a = dropL l a := by unfold dropL; rw [List.filter_filter]; simp
theorem RqOk.drop {w : Int} {mo mo' : Obj} {l : List Sr} (h : RqOk w mo l) (a : Int) (hm : MpIs .u32 mo' (mupd (srV l) a none) (if (srV l a).isSome then l.length - 1 else l.length)) : RqOk w mo' (dropL l a) := by
  refine ⟨hm.cong (fun z => ?_) ?_, h.so.sublist (List.filter_sublist.map _), Nat.le_trans (List.length_filter_le _ _) h.sm, fun s hs => h.id s (dropL_mem hs), fun s hs => h.la s (dropL_mem hs), fun s hs => h.se s (dropL_mem hs), fun s hs => h.wt s (dropL_mem hs), h.w⟩
  · unfold mupd srV
    rw [srF_drop]
    split <;> rfl
  · rw [drop_len h.so]
    unfold srV
    rw [Option.isSome_map]
set_option maxHeartbeats 800000 in
theorem xf_Drop {W : World} {L : List Blk} (w : Int) (r mb : Nat) (mo : Obj) (l : List Sr) (hx : RqOk w mo l) (q : Nat) (a : Int) (hq : (q, Obj.cells (ints .u32 [a, a]).toArray 30 (0, 0)) ∈ L) :
    XF Try.prog W 12 #[.pointer (some ⟨r, 0, none⟩), .slice (some ⟨q, 0, none⟩) 2 2] (rqB w r mb mo L) (fun v L' => v = .tuple #[] ∧ ∃ mo', RqOk w mo' (dropL l a) ∧ L' = rqB w r mb mo' L) := by
  refine xf_enter (args := [_, _]) Try.func12 rfl Try.ntmps12 rfl ?_
  focus
    refine xc_seq ?_
    refine xc_seq ?_
    refine xc_region ?_
    refine xo_rd (rd_move rfl) rfl ?_
    refine xo_rd (rd_eqnil rfl) rfl ?_
    refine xo_nil ?_
    refine xq_seq ?_
    refine xc_condf rfl ?_
    refine xc_skip ?_
    refine xq_seq ?_
    refine xc_seq ?_
    refine xc_region ?_
    refine xo_rd (rd_move rfl) rfl ?_
    refine xo_rd (rd_len rfl) rfl ?_
    refine xo_rd (rd_move rfl) rfl ?_
    refine xo_nil ?_
    refine xq_seq ?_
    refine xc_block ?_
  refine xc_loopI (ι := TkS) (fun s => s.i ≤ 2 ∧ RqOk w s.mo (if s.i = 0 then l else dropL l a)) (fun s => 2 - s.i) (fun s => rqB w r mb s.mo L) (fun s => [(0, .pointer (some ⟨r, 0, none⟩)), (8, .slice (some ⟨q, 0, none⟩) 2 2), (9, .int .i64 2), (10, .int .i64 s.i)]) ⟨0, mo⟩ ⟨Nat.zero_le _, hx⟩ rfl (by repeat (first | exact keep_nil | refine keep_cons rfl ?_)) ?_
  rintro ⟨i, m2⟩ ⟨hi, hok⟩
  dsimp only at hi hok ⊢
  by_cases hin : i < 2
  case neg =>
    have : i = 2 := by omega
    subst this
    focus
      refine xc_seq ?_
      refine xc_region ?_
      refine xo_rd (rd_lss rfl rfl) rfl ?_
      refine xo_nil ?_
      refine xq_seq ?_
      refine xc_seq ?_
      refine xc_condf rfl ?_
      refine xc_exit ?_
      refine xq_then_exit ?_
      refine xq_then_exit ?_
      refine xq_block_hit ?_
    exact xq_ret0 (.inr rfl) Try.results12 ⟨rfl, m2, hok, rfl⟩
  have hrs : Rs W (rqB w r mb m2 L) (some ⟨q, 0, none⟩) (ints .u32 [a, a]) := Rs.fresh (List.mem_cons_of_mem _ (List.mem_cons_of_mem _ hq))
  obtain ⟨b, o, hpb, hc⟩ := hrs.int (i := i) hin
  simp only [Option.some.injEq, Addr.mk.injEq, and_true] at hpb
  obtain ⟨rfl, rfl⟩ := hpb
  have hai : [a, a][i]'hin = a := by
    have : i = 0 ∨ i = 1 := by omega
    rcases this with rfl | rfl <;> rfl
  rw [hai] at hc
  have hdp := fun mo' h => RqOk.drop (mo' := mo') hok a h
  have hl2 : dropL (if i = 0 then l else dropL l a) a = dropL l a := by
    split
    · rfl
    · exact dropL_two l a
  rw [hl2] at hdp
  have hmp := hok.mp
  generalize (if i = 0 then l else dropL l a) = li at *
  unfold rqB at *
  focus
    refine xc_seq ?_
    refine xc_region ?_
    refine xo_rd (rd_lss rfl rfl) rfl ?_
    refine xo_nil ?_
    refine xq_seq ?_
    refine xc_seq ?_
    refine xc_dec rfl (fun h1 => ?_) (fun h1 => (by exfalso; omega))
    refine xc_skip ?_
    refine xq_seq ?_
    refine xc_seq ?_
    refine xc_block ?_
    refine xc_seq ?_
    refine xc_region ?_
    refine xo_rd (rd_indexAddr rfl rfl (by omega) (by omega)) rfl ?_
    refine xo_rd (rd_load1 rfl hc) rfl ?_
    refine xo_rd (rd_assign rfl) rfl ?_
    refine xo_nil ?_
    refine xq_seq ?_
    refine xc_region ?_
    refine xo_rd (rd_move rfl) rfl ?_
    refine xo_rd (rd_nilCheck rfl) rfl ?_
    refine xo_rd (rd_fieldAddr rfl) rfl ?_
    refine xo_rd (rd_load1 rfl (Cl.o0 rfl)) rfl ?_
    refine xo_rd (rd_move rfl) rfl ?_
    refine xo_ef rfl (ef_delete [_] L hmp rfl rfl rfl fun mo2 hmp2 => ?_)
    refine xo_nil ?_
    refine xq_block ?_
    refine xq_seq ?_
    refine xc_region ?_
    refine xo_rd (rd_addn rfl rfl (by omega) (by omega)) rfl ?_
    refine xo_rd (rd_move rfl) rfl ?_
    refine xo_nil ?_
  exact xq_roundI (⟨i + 1, mo2⟩ : TkS) ⟨by dsimp only; omega, by dsimp only; rw [if_neg (by omega)]; exact hdp mo2 hmp2⟩ (by dsimp only; omega) rfl (by repeat (first | exact keep_nil | refine keep_cons rfl ?_))
end Go.Proofs.Ytoolgphkfnkajaa.X
