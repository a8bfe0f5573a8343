/-
  Texts of my own, put together: walks and laws for this seat. No condition.
-/
import Derived.Test.YtpheiklhjelkcaaZ11
import Derived.Test.YtpheiklhjelkcaaZ12
/-
  Chapter 19: what a queue keeps, whatever is called: a walk of my own.
-/
namespace Go.Proofs.Ytpheiklhjelkcaa.X
open Go Go.RowKit
set_option linter.unusedVariables false
set_option linter.unusedSimpArgs false
/-- The state of Keep. -/
structure KpS where
  i : Nat
  bg : Bool
  es : List En
  p : Option Addr
  c : Nat
  l : List Blk
  M : List Blk
  last : Int
  came : Nat
  gone : Nat
  ev : Nat
structure KpS.Ok (W : World) (B : Int) (ca : Bool) (r : Nat) (s : KpS) : Prop where
  q : (Qs.mk r B ca s.bg s.es s.p s.c s.l).Ok W s.M
  stl : Stl (s.es.map En.a)
  kp : Kp (s.es.map En.a) s.last s.i
  lt : s.last < s.i
  fr : (framesA (s.es.map En.a) : Int) ≤ B + 1
  hd : s.bg = true → ∃ a r, s.es.map En.a = a :: r ∧ a.lo = false
  sum : s.came = s.gone + s.ev + framesA (s.es.map En.a)
  ci : s.came ≤ s.i
  len : s.es.length ≤ s.i
def kpL (B : Int) (ca : Bool) (r : Nat) (s : KpS) : List Blk := (r, .cells (qcl B ca s.bg s.p s.es.length s.c).toArray 108 (0, 0)) :: (s.l ++ s.M)
theorem kpL_mk (B : Int) (ca : Bool) (r i : Nat) (bg : Bool) (es : List En) (p : Option Addr) (c : Nat) (l M : List Blk) (last : Int) (came gone ev : Nat) : kpL B ca r ⟨i, bg, es, p, c, l, M, last, came, gone, ev⟩ = (r, .cells (qcl B ca bg p es.length c).toArray 108 (0, 0)) :: (l ++ M) := rfl
theorem perm_k1 {a : Blk} (la e l R : List Blk) : (la ++ (e ++ (a :: (l ++ R)))).Perm (a :: (l ++ (la ++ (e ++ R)))) := (by classical exact List.perm_iff_count.2 fun a => by simp only [List.append_eq, List.count_append, List.count_cons, List.count_nil, List.cons_append, List.nil_append, List.flatMap_append, List.flatMap_cons, List.flatMap_nil, List.append_nil]; omega)
theorem mem_h {a : Blk} (l M : List Blk) : ∀ z, z ∈ a :: l → z ∈ a :: (l ++ M) := fun z hz => by
  rcases List.mem_cons.1 hz with h | h
  · exact h ▸ List.mem_cons_self
  · exact List.mem_cons_of_mem _ (List.mem_append_left _ h)
theorem mem_h2 {a b : Blk} (l M : List Blk) : ∀ z, z ∈ a :: l → z ∈ b :: a :: (l ++ M) := fun z hz => List.mem_cons_of_mem _ (mem_h l M z hz)
theorem perm_k2 {a b : Blk} (y l R : List Blk) : (y ++ (a :: b :: (l ++ R))).Perm (a :: b :: (l ++ (y ++ R))) := (by classical exact List.perm_iff_count.2 fun a => by simp only [List.append_eq, List.count_append, List.count_cons, List.count_nil, List.cons_append, List.nil_append, List.flatMap_append, List.flatMap_cons, List.flatMap_nil, List.append_nil]; omega)
theorem perm_k4 {a b c d : Blk} (l R : List Blk) : (a :: b :: c :: d :: (l ++ R)).Perm (d :: (l ++ (a :: b :: c :: R))) := (by classical exact List.perm_iff_count.2 fun a => by simp only [List.append_eq, List.count_append, List.count_cons, List.count_nil, List.cons_append, List.nil_append, List.flatMap_append, List.flatMap_cons, List.flatMap_nil, List.append_nil]; omega)
theorem perm_k5 {a b c d : Blk} (l N R : List Blk) : (d :: (l ++ (N ++ (a :: b :: c :: R)))).Perm (c :: d :: (l ++ (N ++ (a :: b :: R)))) := (by classical exact List.perm_iff_count.2 fun a => by simp only [List.append_eq, List.count_append, List.count_cons, List.count_nil, List.cons_append, List.nil_append, List.flatMap_append, List.flatMap_cons, List.flatMap_nil, List.append_nil]; omega)
theorem perm_k6 {a b : Blk} (la e l R : List Blk) : (la ++ (e ++ (a :: b :: (l ++ R)))).Perm (a :: b :: (l ++ (la ++ (e ++ R)))) := (by classical exact List.perm_iff_count.2 fun a => by simp only [List.append_eq, List.count_append, List.count_cons, List.count_nil, List.cons_append, List.nil_append, List.flatMap_append, List.flatMap_cons, List.flatMap_nil, List.append_nil]; omega)
theorem mem_k2 {a b : Blk} (l N A R M : List Blk) (h : ∀ z, z ∈ M → z ∈ R) : ∀ z, z ∈ N ++ M → z ∈ a :: b :: (l ++ (A ++ (N ++ R))) := fun z hz => by
  rcases List.mem_append.1 hz with h1 | h1
  · exact List.mem_cons_of_mem _ (List.mem_cons_of_mem _ (List.mem_append_right _ (List.mem_append_right _ (List.mem_append_left _ h1))))
  · exact List.mem_cons_of_mem _ (List.mem_cons_of_mem _ (List.mem_append_right _ (List.mem_append_right _ (List.mem_append_right _ (h z h1)))))
theorem sub_k1 {a b c d : Blk} (l2 lw2 e2 N2 y lw e M : List Blk) : (b :: (l2 ++ (N2 ++ M))).Sublist (a :: b :: (l2 ++ (lw2 ++ (e2 ++ (N2 ++ (c :: d :: (y ++ (lw ++ (e ++ M))))))))) := by
  refine List.Sublist.cons _ (List.Sublist.cons_cons _ ((List.Sublist.refl l2).append (List.Sublist.trans (List.Sublist.trans ((List.Sublist.refl N2).append ?_) (List.sublist_append_right e2 _)) (List.sublist_append_right lw2 _))))
  exact ((((List.sublist_append_right e M).trans (List.sublist_append_right lw _)).trans (List.sublist_append_right y _)).cons _).cons _
theorem perm_k7 {a : Blk} (y l M : List Blk) : (y ++ (a :: (l ++ M))).Perm (a :: (l ++ (y ++ M))) := (by classical exact List.perm_iff_count.2 fun a => by simp only [List.append_eq, List.count_append, List.count_cons, List.count_nil, List.cons_append, List.nil_append, List.flatMap_append, List.flatMap_cons, List.flatMap_nil, List.append_nil]; omega)
theorem perm_k8 {a b : Blk} (z y l M : List Blk) : (z ++ (a :: b :: (l ++ (y ++ M)))).Perm (a :: b :: (l ++ (z ++ (y ++ M)))) := (by classical exact List.perm_iff_count.2 fun a => by simp only [List.append_eq, List.count_append, List.count_cons, List.count_nil, List.cons_append, List.nil_append, List.flatMap_append, List.flatMap_cons, List.flatMap_nil, List.append_nil]; omega)
theorem sub_k7 {a b : Blk} (y l M : List Blk) : (b :: (l ++ M)).Sublist (a :: b :: (l ++ (y ++ M))) := (((List.Sublist.refl l).append (List.sublist_append_right y M)).cons_cons _).trans (List.sublist_cons_self _ _)
theorem sub_k8 {a b : Blk} (y z l M : List Blk) : (b :: (l ++ M)).Sublist (a :: b :: (l ++ (z ++ (y ++ M)))) := (((List.Sublist.refl l).append ((List.sublist_append_right y M).trans (List.sublist_append_right z _))).cons_cons _).trans (List.sublist_cons_self _ _)
theorem sub_k9 {b : Blk} (y z l M : List Blk) : (b :: (l ++ M)).Sublist (b :: (l ++ (y ++ (z ++ M)))) := ((List.Sublist.refl l).append ((List.sublist_append_right z M).trans (List.sublist_append_right y _))).cons_cons _
/-- Where the second round stands. -/
structure AtS where
  n : Nat
  t : Int
theorem kp_next {l : List Ea} {last : Int} {i : Nat} (h : Kp l last i) {j : Nat} {e : Ea} (he : l[j]? = some e) {t : Int} (ha : ∀ a, a ∈ fs (l.drop j) → t < a.f.i.pic) : (∀ a, a ∈ fs (l.drop (j + 1)) → (if e.lo = true then t else e.f.i.pic) < a.f.i.pic) ∧ (e.lo = false → t < e.f.i.pic) := by
  obtain ⟨hj, rfl⟩ := List.getElem?_eq_some_iff.1 he
  have hd : l.drop j = l[j] :: l.drop (j + 1) := List.drop_eq_getElem_cons hj
  have hf : fs (l.drop j) = fs [l[j]] ++ fs (l.drop (j + 1)) := by rw [hd]; exact fs_app [l[j]] _
  have hp : (fs (l.drop j)).Pairwise fun a b => a.f.i.pic < b.f.i.pic := List.Pairwise.sublist ((List.drop_sublist j l).filter _) h.ri
  cases hl : l[j].lo with
  | true =>
    rw [fs_lo hl] at hf
    exact ⟨fun a h2 => by rw [if_pos rfl]; exact ha a (hf ▸ h2), fun h => by cases h⟩
  | false =>
    rw [fs_hi hl] at hf
    rw [hf] at hp ha
    exact ⟨fun a h2 => by rw [if_neg (by decide)]; exact (List.pairwise_cons.1 hp).1 a h2, fun _ => ha _ (List.mem_append_left _ (List.mem_singleton.2 rfl))⟩
def lostI : It := ⟨true, false, 0, false, zFr⟩
/-- What is made. -/
structure KyS where
  y : En
  r : Nat
/-- What is put. -/
structure KxS where
  x : En
  came : Nat
def kpE (B : Int) (ca : Bool) (b2 o2 n c r : Nat) (s : KpS) : List (Nat × Value) := [(0, .int .i64 B), (1, .bool ca), (2, .slice (some ⟨b2, o2, none⟩) n c), (7, .pointer (some ⟨r, 0, none⟩)), (9, .int .i64 s.came), (10, .int .i64 s.gone), (11, .int .i64 s.ev), (12, .int .i64 s.last)]
set_option maxHeartbeats 3200000 in
theorem keep1 {W : World} (b : Int) (ca : Bool) (p : Option Addr) (n c : Nat) (xs : List Ac) (hx : xs.length = n) (hr : AcR W [] p xs) :
    XF Try.prog W 4 #[.int .i64 b, .bool ca, .slice p n c] [] (fun v L' => v = .bool true) := by
  refine xf_enter (args := [_, _, _]) Try.func4 rfl Try.ntmps4 rfl ?_
  focus
    refine xc_seq ?_
    refine xc_region ?_
    refine xo_rd (rd_assign rfl) rfl ?_
    refine xo_nil ?_
    refine xq_seq ?_
    refine xc_seq ?_
    refine xc_seq ?_
    refine xc_region ?_
    refine xo_rd (rd_move rfl) rfl ?_
    refine xo_ef rfl (ef_call rfl (XF.mono (xf_few p n c xs hx hr 50 (by decide)) ?_))
    rintro v L' ⟨bf, rfl, hbf, rfl⟩
    refine xo_rd (rd_not rfl) rfl ?_
    refine xo_nil ?_
    refine xq_seq ?_
    refine xc_cond rfl (fun hz1 => ?_) (fun hz1 => ?_)
    refine xc_seq ?_
    refine xc_region ?_
    refine xo_ef rfl (ef_call rfl (XF.mono (xf_works) ?_))
    rintro v L' ⟨rfl, rfl⟩
    refine xo_rd (rd_assign rfl) rfl ?_
    refine xo_nil ?_
    refine xq_seq ?_
    refine xc_ret ?_
    refine xq_then_ret ?_
    rotate_left
    refine xc_skip ?_
    refine xq_seq ?_
    rotate_left
  · exact xq_ret1 (.inl rfl) Try.results4 rfl rfl
  have hsm := hbf (by simpa using hz1)
  have hpB : ∀ L', XF Try.prog W 12 #[.int .i64 b, .int .i64 6] L' (fun v L'' => v = .int .i64 ((b.tmod 6 + 6) % 6) ∧ L'' = L') := fun L' => xf_pick b 6 (by decide) (by decide)
  have hB0 : 0 ≤ (b.tmod 6 + 6) % 6 ∧ (b.tmod 6 + 6) % 6 < 6 := ⟨Int.emod_nonneg _ (by decide), Int.emod_lt_of_pos _ (by decide)⟩
  generalize (b.tmod 6 + 6) % 6 = kb at *
  obtain ⟨B, hBe⟩ : ∃ B, B = 1 + kb := ⟨_, rfl⟩
  have hB : 1 ≤ B ∧ B ≤ 6 := by omega
  focus
    refine xc_seq ?_
    refine xc_region ?_
    refine xo_rd (rd_move rfl) rfl ?_
    refine xo_ef rfl (ef_call rfl (XF.mono (hpB _) ?_))
    rintro v L' ⟨rfl, rfl⟩
    refine xo_rd (rd_cast (v' := .int .i64 B) (rd_addn rfl rfl (by omega) (by omega)) (by rw [hBe])) rfl ?_
    refine xo_rd (rd_move rfl) rfl ?_
    refine xo_ef rfl (ef_call rfl (XF.mono (xf_NewE B ca ⟨hB.1, by omega⟩) ?_))
    rintro v L' ⟨r, rfl, rfl⟩
    refine xo_rd (rd_move rfl) rfl ?_
    refine xo_rd (rd_extract rfl rfl) rfl ?_
    refine xo_rd (rd_extract rfl rfl) rfl ?_
    refine xo_rd (rd_assign rfl) rfl ?_
    refine xo_rd (rd_assign rfl) rfl ?_
    refine xo_nil ?_
    refine xq_seq ?_
    refine xc_seq ?_
    refine xc_seq ?_
    refine xc_region ?_
    refine xo_rd (rd_move rfl) rfl ?_
    refine xo_rd (rd_neq rfl rfl) rfl ?_
    refine xo_nil ?_
    refine xq_seq ?_
    refine xc_condf rfl ?_
    refine xc_skip ?_
    refine xq_seq ?_
    refine xc_seq ?_
    refine xc_region ?_
    refine xo_rd (rd_move rfl) rfl ?_
    refine xo_ef rfl (ef_call rfl (XF.mono (hpB _) ?_))
    rintro v L' ⟨rfl, rfl⟩
    refine xo_rd (rd_cast (v' := .int .i64 B) (rd_addn rfl rfl (by omega) (by omega)) (by rw [hBe])) rfl ?_
    refine xo_rd (rd_assign rfl) rfl ?_
    refine xo_nil ?_
    refine xq_seq ?_
    refine xc_seq ?_
    refine xc_region ?_
    refine xo_rd (rd_assign rfl) rfl ?_
    refine xo_rd (rd_assign rfl) rfl ?_
    refine xo_rd (rd_assign rfl) rfl ?_
    refine xo_nil ?_
    refine xq_seq ?_
    refine xc_seq ?_
    refine xc_region ?_
    refine xo_rd (rd_assign rfl) rfl ?_
    refine xo_nil ?_
    refine xq_seq ?_
    refine xc_seq ?_
    refine xc_seq ?_
    refine xc_region ?_
    refine xo_rd (rd_assign rfl) rfl ?_
    refine xo_nil ?_
    refine xq_seq ?_
    refine xc_block ?_
  refine xc_loopI (ι := KpS) (fun s => s.i ≤ n ∧ s.Ok W B ca r) (fun s => n - s.i) (fun s => kpL B ca r s) (fun s => [(0, .int .i64 B), (1, .bool ca), (2, .slice p n c), (7, .pointer (some ⟨r, 0, none⟩)), (9, .int .i64 s.came), (10, .int .i64 s.gone), (11, .int .i64 s.ev), (12, .int .i64 s.last), (13, .int .i64 s.i)]) ⟨0, false, [], none, 0, [], [], -1, 0, 0, 0⟩ ⟨Nat.zero_le _, ⟨⟨SlQ.nil, (fun e h => by cases h), (fun e h => by cases h), Nat.zero_le _⟩, trivial, Kp.nil, (by decide), (by show (0 : Int) ≤ B + 1; omega), (fun h => by cases h), rfl, Nat.le_refl _, Nat.le_refl _⟩⟩ rfl (by repeat (first | exact keep_nil | refine keep_cons rfl ?_)) ?_
  rintro ⟨i, bg, es, p1, c1, l, M, last, came, gone, ev⟩ ⟨hi, hok⟩
  rw [kpL_mk]
  have hn50 : n ≤ 50 := by have := hsm.1; omega
  obtain ⟨hq, hstl, hkp, hlt, hfr, hhd, hsum, hci, hlen⟩ := hok
  dsimp only at hi hq hstl hkp hlt hfr hhd hsum hci hlen ⊢
  by_cases hin : i < n
  · obtain ⟨b2, o2, hp2, hcl⟩ := hr.rs.rows Ac.len (by decide) (by omega)
    subst hp2
    have hca := hcl i (by omega)
    generalize xs[i] = a at *
    have hd : ∀ L', Cl W L' b2 (o2 + (i : Int).toNat * 18 + 0) (.int .i64 a.d) := fun L' => (hca 0 _ rfl).mono fun z h => by cases h
    have hag : ∀ L', Cl W L' b2 (o2 + (i : Int).toNat * 18 + 1) (.int .u64 a.e.g) := fun L' => (hca 1 _ rfl).mono fun z h => by cases h
    have hal : ∀ L', Cl W L' b2 (o2 + (i : Int).toNat * 18 + 3) (.bool a.e.i.lo) := fun L' => (hca 3 _ rfl).mono fun z h => by cases h
    have hak : ∀ L', Cl W L' b2 (o2 + (i : Int).toNat * 18 + 16) (.bool a.e.i.f.k) := fun L' => (hca 16 _ rfl).mono fun z h => by cases h
    have hqr : ∀ L' : List Blk, (∀ z, z ∈ ((r, Obj.cells (qcl B ca bg p1 es.length c1).toArray 108 (0, 0)) :: l : List Blk) → z ∈ L') → QR W L' (Qs.mk r B ca bg es p1 c1 l) := fun L' h => hq.qr h
    have hAll : ∀ L' : List Blk, (∀ z, z ∈ ((r, Obj.cells (qcl B ca bg p1 es.length c1).toArray 108 (0, 0)) :: l : List Blk) → z ∈ L') → (∀ z, z ∈ M → z ∈ L') → XF Try.prog W 29 #[.pointer (some ⟨r, 0, none⟩)] L' (fun v L'' => ∃ ys q k lw, v = .slice q ys.length k ∧ ys.map En.a = es.map En.a ∧ (∀ y, y ∈ ys → y.i.f.Ok 116) ∧ SlQ 17 45 (.slice q ys.length k) ys.length (ys.flatMap En.enc) lw ∧ L'' = lw ++ (ebl ys ++ L')) := fun L' h h2 => xf_All (W := W) (L := L') (Qs.mk r B ca bg es p1 c1 l) (hqr L' h) (fun e he => (hq.at' e he).mono h2) hq.few hq.len
    have hbg : ∀ L' : List Blk, (∀ z, z ∈ ((r, Obj.cells (qcl B ca bg p1 es.length c1).toArray 108 (0, 0)) :: l : List Blk) → z ∈ L') → XF Try.prog W 24 #[.pointer (some ⟨r, 0, none⟩)] L' (fun v L'' => v = .bool bg ∧ L'' = L') := fun L' h => xf_Begun (W := W) (L := L') (Qs.mk r B ca bg es p1 c1 l) (hqr L' h)
    focus
      refine xc_seq ?_
      refine xc_seq ?_
      refine xc_region ?_
      refine xo_rd (rd_move rfl) rfl ?_
      refine xo_rd (rd_move rfl) rfl ?_
      refine xo_rd (rd_len rfl) rfl ?_
      refine xo_rd (rd_lss rfl rfl) rfl ?_
      refine xo_nil ?_
      refine xq_seq ?_
      refine xc_dec rfl (fun h1 => ?_) (fun h1 => (by exfalso; omega))
      refine xc_skip ?_
      refine xq_seq ?_
      refine xc_seq ?_
      refine xc_block ?_
      refine xc_seq ?_
      refine xc_region ?_
      refine xo_rd (rd_move rfl) rfl ?_
      refine xo_ef rfl (ef_call rfl (XF.mono (hAll _ (mem_h _ _) (by intro z hz; simp [hz])) ?_))
      rintro v L' ⟨ys, q, k, lw, rfl, hya, hyo, hyq, rfl⟩
      refine xo_perm (perm_k1 lw (ebl ys) l M) ?_
      refine xo_rd (rd_assign rfl) rfl ?_
      refine xo_nil ?_
      refine xq_seq ?_
      refine xc_seq ?_
      refine xc_region ?_
      refine xo_rd (rd_move rfl) rfl ?_
      refine xo_ef rfl (ef_call rfl (XF.mono (hbg _ (mem_h _ _)) ?_))
      rintro v L' ⟨rfl, rfl⟩
      refine xo_rd (rd_assign rfl) rfl ?_
      refine xo_nil ?_
      refine xq_seq ?_
    have hyl : ys.length = es.length := by have := congrArg List.length hya; rwa [List.length_map, List.length_map] at this
    have hes : es.length ≤ 1000000 := hq.len
    have hkp2 := fun L' (h : ∀ z, z ∈ lw → z ∈ L') => xf_lkept (W := W) (L := L') q ys.length k ys rfl (hyq.rs h) (by omega) bg
    rw [hya] at hkp2
    generalize hkk : (a.d.tmod 5 + 5) % 5 = kk
    have hpk := fun L' => xf_pick (W := W) (L := L') a.d 5 (by decide) (by decide)
    rw [hkk] at hpk
    focus
      refine xc_seq ?_
      refine xc_region ?_
      refine xo_rd (rd_move rfl) rfl ?_
      refine xo_rd (rd_move rfl) rfl ?_
      refine xo_ef rfl (ef_call rfl (XF.mono (hkp2 _ (by intro z hz; simp [hz])) ?_))
      rintro v L' ⟨kf, kb2, rfl, hkf, rfl⟩
      refine xo_rd (rd_move rfl) rfl ?_
      refine xo_rd (rd_extract rfl rfl) rfl ?_
      refine xo_rd (rd_extract rfl rfl) rfl ?_
      refine xo_ef rfl (ef_alloc fun r16 => ?_)
      refine xo_ef rfl (ef_storeB [] _ rfl rfl (by first | rfl | assumption) rfl rfl rfl ?_)
      refine xo_rd (rd_assign rfl) rfl ?_
      refine xo_nil ?_
      refine xq_seq ?_
      refine xc_seq ?_
      refine xc_region ?_
      refine xo_rd (rd_move rfl) rfl ?_
      refine xo_rd (rd_move rfl) rfl ?_
      refine xo_rd (rd_indexAddr rfl rfl (by omega) (by omega)) rfl ?_
      refine xo_rd (rd_fieldAddr rfl) rfl ?_
      refine xo_rd (rd_load1 rfl (hd _)) rfl ?_
      refine xo_ef rfl (ef_call rfl (XF.mono (hpk _) ?_))
      rintro v L' ⟨rfl, rfl⟩
      refine xo_rd (rd_assign rfl) rfl ?_
      refine xo_nil ?_
      refine xq_seq ?_
    refine xc_join (ι := KpS) (fun s => s.i = i + 1 ∧ s.Ok W B ca r) (fun s => kpL B ca r s) (fun s => [(0, .int .i64 B), (1, .bool ca), (2, .slice (some ⟨b2, o2, none⟩) n c), (7, .pointer (some ⟨r, 0, none⟩)), (9, .int .i64 s.came), (10, .int .i64 s.gone), (11, .int .i64 s.ev), (12, .int .i64 s.last), (13, .int .i64 i), (18, .int .i64 kk)]) ?_ ?_
    · by_cases hk3 : kk < 3
      case neg =>
        focus
          refine xc_seq ?_
          refine xc_region ?_
          refine xo_rd (rd_move rfl) rfl ?_
          refine xo_rd (rd_lss rfl rfl) rfl ?_
          refine xo_nil ?_
          refine xq_seq ?_
          refine xc_dec rfl (fun h1 => (by exfalso; omega)) (fun h1 => ?_)
          refine xc_skip ?_
        refine xq_sub (L' := kpL B ca r ⟨i + 1, bg, es, p1, c1, l, M, last, came, gone, ev⟩) ?_ (xq_joined (⟨i + 1, bg, es, p1, c1, l, M, last, came, gone, ev⟩ : KpS) ⟨rfl, ⟨hq, hstl, hkp.up, by dsimp only; omega, hfr, hhd, hsum, by dsimp only; omega, by dsimp only; omega⟩⟩ rfl (by repeat (first | exact keep_nil | refine keep_cons rfl ?_)))
        exact ((List.Sublist.refl l).append ((List.sublist_append_right (ebl ys) M).trans (List.sublist_append_right lw _))).cons_cons _ |>.trans (List.sublist_cons_self _ _)
      have hmd := fun L' (g : Int) => xf_made (W := W) (L := L') a.e.i.f.k (i : Int) g ⟨by omega, by omega⟩
      focus
        refine xc_seq ?_
        refine xc_region ?_
        refine xo_rd (rd_move rfl) rfl ?_
        refine xo_rd (rd_lss rfl rfl) rfl ?_
        refine xo_nil ?_
        refine xq_seq ?_
        refine xc_dec rfl (fun h1 => ?_) (fun h1 => (by exfalso; omega))
      refine xc_join (ι := KyS) (fun s => s.y.a = madeE a.e.i.f.k i (a.e.g.tmod 3) ∧ s.y.i.f.Ok 116) (fun s => (s.r, .cells s.y.enc.toArray 45 (0, 0)) :: (r16, .cells kf.enc.toArray 41 (0, 0)) :: (r, .cells (qcl B ca bg p1 es.length c1).toArray 108 (0, 0)) :: (l ++ (s.y.i.f.bl ++ (lw ++ (ebl ys ++ M))))) (fun s => [(0, .int .i64 B), (1, .bool ca), (2, .slice (some ⟨b2, o2, none⟩) n c), (7, .pointer (some ⟨r, 0, none⟩)), (9, .int .i64 came), (10, .int .i64 gone), (11, .int .i64 ev), (12, .int .i64 last), (13, .int .i64 i), (14, .slice q ys.length k), (15, .bool bg), (16, .pointer (some ⟨r16, 0, none⟩)), (17, .bool kb2), (18, .int .i64 kk), (19, .pointer (some ⟨s.r, 0, none⟩))]) ?_ ?_
      · skip
        focus
          refine xc_drawML [0, 0, 3, 4, 8, 16, 32, 64, 0, 0, 0, 1536, 2048, 4096, 8192, 16384, 33152, 0, 262143] [0, 0, 3, 4, 8, 16, 32, 64, 0, 0, 0, 1536, 2048, 4096, 8192, 16384, 33152, 0, 262143] (by kernel_rfl) (by kernel_rfl) (by kernel_rfl) ?_
          refine xm_take 0 (m' := 1) rfl (by kernel_rfl) Sb.refl (rd_move rfl) rfl (by kernel_rfl) ?_
          refine xm_take 1 (m' := 3) rfl (by kernel_rfl) Sb.refl (rd_move rfl) rfl (by kernel_rfl) ?_
          refine xm_take 2 (m' := 7) rfl (by kernel_rfl) Sb.refl (rd_indexAddr rfl rfl (by omega) (by omega)) rfl (by kernel_rfl) ?_
          refine xm_take 3 (m' := 15) rfl (by kernel_rfl) Sb.refl (rd_fieldAddr rfl) rfl (by kernel_rfl) ?_
          refine xm_take 4 (m' := 31) rfl (by kernel_rfl) Sb.refl (rd_fieldAddr rfl) rfl (by kernel_rfl) ?_
          refine xm_take 5 (m' := 63) rfl (by kernel_rfl) Sb.refl (rd_fieldAddr rfl) rfl (by kernel_rfl) ?_
          refine xm_take 6 (m' := 127) rfl (by kernel_rfl) Sb.refl (rd_fieldAddr rfl) rfl (by kernel_rfl) ?_
          refine xm_take 7 (m' := 255) rfl (by kernel_rfl) Sb.refl (rd_load1 rfl (hak _)) rfl (by kernel_rfl) ?_
          refine xm_take 8 (m' := 511) rfl (by kernel_rfl) Sb.refl (rd_move rfl) rfl (by kernel_rfl) ?_
          refine xm_take 9 (m' := 1023) rfl (by kernel_rfl) Sb.refl (rd_move rfl) rfl (by kernel_rfl) ?_
          refine xm_take 10 (m' := 2047) rfl (by kernel_rfl) Sb.refl (rd_move rfl) rfl (by kernel_rfl) ?_
          refine xm_take 11 (m' := 4095) rfl (by kernel_rfl) Sb.refl (rd_indexAddr rfl rfl (by omega) (by omega)) rfl (by kernel_rfl) ?_
          refine xm_take 12 (m' := 8191) rfl (by kernel_rfl) Sb.refl (rd_fieldAddr rfl) rfl (by kernel_rfl) ?_
          refine xm_take 13 (m' := 16383) rfl (by kernel_rfl) Sb.refl (rd_fieldAddr rfl) rfl (by kernel_rfl) ?_
          refine xm_take 14 (m' := 32767) rfl (by kernel_rfl) Sb.refl (rd_load1 rfl (hag _)) rfl (by kernel_rfl) ?_
          refine xm_take 15 (m' := 65535) rfl (by kernel_rfl) Sb.refl (rd_rem rfl rfl (by decide)) rfl (by kernel_rfl) ?_
          refine xm_two 16 17 (mi := 131071) (mk := 196607) rfl rfl (by kernel_rfl) rfl rfl (by kernel_rfl) (by kernel_rfl) (ef_call rfl (XF.mono (hmd _ _) ?_)) (ef_alloc fun r19 => ⟨(by first | exact Sb.refl | exact Sb.nil | (repeat (first | exact Sb.nil | exact Sb.refl | exact Sb.app0 | apply Sb.keep | apply Sb.keepApp | apply Sb.cons | apply Sb.app))), ?_⟩)
          rotate_left
          rotate_right
          rintro v L' ⟨y, rfl, hyA, hyO, rfl⟩
          refine xmx_perm (perm_k2 y.i.f.bl l (lw ++ (ebl ys ++ M))) ?_
          refine ⟨(by first | exact Sb.refl | exact Sb.nil | (repeat (first | exact Sb.nil | exact Sb.refl | exact Sb.app0 | apply Sb.keep | apply Sb.keepApp | apply Sb.cons | apply Sb.app))), ?_⟩
          refine xm_one 17 (m' := 262143) rfl (by kernel_rfl) rfl (by kernel_rfl) (ef_alloc fun r19 => ?_)
          refine ⟨(by first | exact Sb.refl | exact Sb.nil | (repeat (first | exact Sb.nil | exact Sb.refl | exact Sb.app0 | apply Sb.keep | apply Sb.keepApp | apply Sb.cons | apply Sb.app))), ?_⟩
          refine xm_one 18 (m' := 524287) rfl (by kernel_rfl) rfl (by kernel_rfl) (ef_storeB [] _ rfl rfl (by first | rfl | assumption) rfl rfl rfl ?_)
          refine ⟨(by first | exact Sb.refl | exact Sb.nil | (repeat (first | exact Sb.nil | exact Sb.refl | exact Sb.app0 | apply Sb.keep | apply Sb.keepApp | apply Sb.cons | apply Sb.app))), ?_⟩
          refine xm_done (by kernel_rfl) ?_
          rotate_left
          refine xm_one 16 (m' := 262143) rfl (by kernel_rfl) rfl (by kernel_rfl) (ef_call rfl (XF.mono (hmd _ _) ?_))
          rintro v L' ⟨y, rfl, hyA, hyO, rfl⟩
          refine xmx_perm (perm_c3 y.i.f.bl l (lw ++ (ebl ys ++ M))) ?_
          refine ⟨(by first | exact Sb.refl | exact Sb.nil | (repeat (first | exact Sb.nil | exact Sb.refl | exact Sb.app0 | apply Sb.keep | apply Sb.keepApp | apply Sb.cons | apply Sb.app))), ?_⟩
          refine xm_one 18 (m' := 524287) rfl (by kernel_rfl) rfl (by kernel_rfl) (ef_storeB [] _ rfl rfl (by first | rfl | assumption) rfl rfl rfl ?_)
          refine ⟨(by first | exact Sb.refl | exact Sb.nil | (repeat (first | exact Sb.nil | exact Sb.refl | exact Sb.app0 | apply Sb.keep | apply Sb.keepApp | apply Sb.cons | apply Sb.app))), ?_⟩
          refine xm_done (by kernel_rfl) ?_
          rotate_left
        all_goals exact xq_joined (⟨y, r19⟩ : KyS) ⟨hyA, hyO⟩ rfl (by repeat (first | exact keep_nil | refine keep_cons rfl ?_))
      rintro ⟨y, r19⟩ ⟨hyA, hyO⟩
      dsimp only at hyA hyO ⊢
      have hyf : y.i.f.a = madeF a.e.i.f.k i := congrArg Ea.f hyA
      have hylo : y.i.lo = false := congrArg Ea.lo hyA
      have hyfew := madeF_few y.i.f _ _ hyf
      refine xc_join (ι := KxS) (fun s => s.x.i.f.Few ∧ (∀ L', (∀ z, z ∈ y.i.f.bl → z ∈ L') → s.x.i.f.At W L') ∧ (s.x.i.lo = false → ∃ kx, s.x.i.f.a = madeF kx i) ∧ s.came = came + (if s.x.i.lo = true then 0 else 1)) (fun s => (r19, .cells s.x.enc.toArray 45 (0, 0)) :: (r16, .cells kf.enc.toArray 41 (0, 0)) :: (r, .cells (qcl B ca bg p1 es.length c1).toArray 108 (0, 0)) :: (l ++ (y.i.f.bl ++ (lw ++ (ebl ys ++ M))))) (fun s => [(0, .int .i64 B), (1, .bool ca), (2, .slice (some ⟨b2, o2, none⟩) n c), (7, .pointer (some ⟨r, 0, none⟩)), (9, .int .i64 s.came), (10, .int .i64 gone), (11, .int .i64 ev), (12, .int .i64 last), (13, .int .i64 i), (14, .slice q ys.length k), (15, .bool bg), (16, .pointer (some ⟨r16, 0, none⟩)), (17, .bool kb2), (18, .int .i64 kk), (19, .pointer (some ⟨r19, 0, none⟩))]) ?_ ?_
      · cases hlo : a.e.i.lo with
        | true =>
          rw [hlo] at hal
          focus
            refine xc_seq ?_
            refine xc_region ?_
            refine xo_rd (rd_move rfl) rfl ?_
            refine xo_rd (rd_move rfl) rfl ?_
            refine xo_rd (rd_indexAddr rfl rfl (by omega) (by omega)) rfl ?_
            refine xo_rd (rd_fieldAddr rfl) rfl ?_
            refine xo_rd (rd_fieldAddr rfl) rfl ?_
            refine xo_rd (rd_fieldAddr rfl) rfl ?_
            refine xo_rd (rd_load1 rfl (hal _)) rfl ?_
            refine xo_nil ?_
            refine xq_seq ?_
            refine xc_condt rfl ?_
            refine xc_region ?_
            refine xo_rd (rd_cast (v' := .agg lostI.enc.toArray) (rd_build (T := 43) rfl rfl rfl) (by kernel_rfl)) rfl ?_
            refine xo_rd (rd_fieldAddr rfl) rfl ?_
            refine xo_ef rfl (ef_storeW [] ((r16, .cells kf.enc.toArray 41 (0, 0)) :: (r, .cells (qcl B ca bg p1 es.length c1).toArray 108 (0, 0)) :: (l ++ (y.i.f.bl ++ (lw ++ (ebl ys ++ M))))) 2 (vs := lostI.enc) (cs := y.enc) (ws := En.enc ⟨y.g, y.s, lostI⟩) rfl rfl rfl rfl rfl (by rw [En.len, It.len]; decide) (by kernel_rfl) ?_)
            refine xo_nil ?_
          exact xq_joined (⟨⟨y.g, y.s, lostI⟩, came⟩ : KxS) ⟨zFr_few, fun L' h => zFr_at, (fun h => by cases h), rfl⟩ rfl (by repeat (first | exact keep_nil | refine keep_cons rfl ?_))
        | false =>
          rw [hlo] at hal
          focus
            refine xc_seq ?_
            refine xc_region ?_
            refine xo_rd (rd_move rfl) rfl ?_
            refine xo_rd (rd_move rfl) rfl ?_
            refine xo_rd (rd_indexAddr rfl rfl (by omega) (by omega)) rfl ?_
            refine xo_rd (rd_fieldAddr rfl) rfl ?_
            refine xo_rd (rd_fieldAddr rfl) rfl ?_
            refine xo_rd (rd_fieldAddr rfl) rfl ?_
            refine xo_rd (rd_load1 rfl (hal _)) rfl ?_
            refine xo_nil ?_
            refine xq_seq ?_
            refine xc_condf rfl ?_
            refine xc_region ?_
            refine xo_rd (rd_move rfl) rfl ?_
            refine xo_rd (rd_addn rfl rfl (by omega) (by omega)) rfl ?_
            refine xo_rd (rd_assign rfl) rfl ?_
            refine xo_nil ?_
          exact xq_joined (⟨y, came + 1⟩ : KxS) ⟨hyfew, fun L' h => hyO.at0.mono h, fun _ => ⟨_, hyf⟩, by rw [hylo]; rfl⟩ rfl (by repeat (first | exact keep_nil | refine keep_cons rfl ?_))
      rintro ⟨x, came2⟩ ⟨hxfew, hxat, hxm, hxc⟩
      dsimp only at hxfew hxat hxm hxc ⊢
      obtain ⟨P, hP⟩ : ∃ P, putA B ca bg (es.map En.a) x.a = P := ⟨_, rfl⟩
      have hK := putK B hB.1 ca bg (es.map En.a) x.a hstl hfr
      rw [hP] at hK
      obtain ⟨hK1, hK2, hK3, hK4, hK5, hK6⟩ := hK
      have hone := putA_one B ca bg (es.map En.a) x.a
      have hplen := putA_len B ca bg (es.map En.a) x.a
      rw [hP] at hone hplen
      have hput := fun r98 => xf_PutF (W := W) (M := (r98, .cells x.enc.toArray 45 (0, 0)) :: (r19, .cells x.enc.toArray 45 (0, 0)) :: (r16, .cells kf.enc.toArray 41 (0, 0)) :: (y.i.f.bl ++ (lw ++ (ebl ys ++ M)))) (M0 := M) r B ca bg es p1 c1 l hq (some ⟨r98, 0, none⟩) 1 x (rs_1 (List.Mem.head _)) (hxat _ (by intro z hz; simp [hz])) hxfew (by omega) (es.map En.a) P.1 x.a P.2 rfl rfl (by rw [hP])
      have hevb : ((ev : Int) + (P.2 : Int)) = ((ev + P.2 : Nat) : Int) := by omega
      focus
        refine xc_seq ?_
        refine xc_region ?_
        refine xo_rd (rd_move rfl) rfl ?_
        refine xo_rd (rd_move rfl) rfl ?_
        refine xo_rd (rd_loadB rfl Kn.o0 (by rfl)) rfl ?_
        refine xo_ef rfl (ef_sliceA (vs := x.enc) rfl rfl (by rw [En.len]; decide) (by rw [En.len]; decide) fun r98 => ?_)
        refine xo_ef rfl (ef_call rfl (XF.mono ((hput r98).perm (perm_k4 l (y.i.f.bl ++ (lw ++ (ebl ys ++ M))))) ?_))
        rintro v L' ⟨es2, p2, c2, l2, N2, rfl, rfl, hok2, hm2⟩
        refine xo_perm (perm_k5 l2 N2 (y.i.f.bl ++ (lw ++ (ebl ys ++ M)))) ?_
        refine xo_rd (rd_addn rfl rfl (by omega) (by omega)) rfl ?_
        refine xo_rd (rd_assign rfl) rfl ?_
        refine xo_nil ?_
        refine xq_seq ?_
      have hl2 : es2.length ≤ es.length + 1 := by
        have h := congrArg List.length hm2
        rw [List.length_map] at h
        rw [List.length_map] at hplen
        omega
      have hAll2 : ∀ L' : List Blk, (∀ z, z ∈ ((r, Obj.cells (qcl B ca bg p2 es2.length c2).toArray 108 (0, 0)) :: l2 : List Blk) → z ∈ L') → (∀ z, z ∈ N2 ++ M → z ∈ L') → XF Try.prog W 29 #[.pointer (some ⟨r, 0, none⟩)] L' (fun v L'' => ∃ ys q k lw, v = .slice q ys.length k ∧ ys.map En.a = P.1 ∧ (∀ y, y ∈ ys → y.i.f.Ok 116) ∧ SlQ 17 45 (.slice q ys.length k) ys.length (ys.flatMap En.enc) lw ∧ L'' = lw ++ (ebl ys ++ L')) := fun L' h h2 => by
        have h3 := xf_All (W := W) (L := L') (Qs.mk r B ca bg es2 p2 c2 l2) (hok2.qr h) (fun e he => (hok2.at' e he).mono h2) hok2.few hok2.len
        rw [show (Qs.mk r B ca bg es2 p2 c2 l2).a = P.1 from hm2] at h3
        exact h3
      have hM2 : ∀ z, z ∈ M → z ∈ (r98, Obj.cells x.enc.toArray 45 (0, 0)) :: (r19, Obj.cells x.enc.toArray 45 (0, 0)) :: (y.i.f.bl ++ (lw ++ (ebl ys ++ M))) := (by intro z hz; simp [hz])
      focus
        refine xc_seq ?_
        refine xc_region ?_
        refine xo_rd (rd_move rfl) rfl ?_
        refine xo_ef rfl (ef_call rfl (XF.mono (hAll2 _ (mem_h2 _ _) (mem_k2 l2 N2 [] _ M hM2)) ?_))
        rintro v L' ⟨ys2, q2, k2, lw2, rfl, hya2, hyo2, hyq2, rfl⟩
        refine xo_perm (perm_k6 lw2 (ebl ys2) l2 (N2 ++ ((r98, Obj.cells x.enc.toArray 45 (0, 0)) :: (r19, Obj.cells x.enc.toArray 45 (0, 0)) :: (y.i.f.bl ++ (lw ++ (ebl ys ++ M)))))) ?_
        refine xo_rd (rd_assign rfl) rfl ?_
        refine xo_nil ?_
        refine xq_seq ?_
      have haty : ∀ L', (∀ z, z ∈ ebl ys → z ∈ L') → ∀ e, e ∈ ys → e.i.f.At W L' := fun L' h e he => (hyo e he).at0.mono fun z hz => h z (mem_ebl he hz)
      have haty2 : ∀ L', (∀ z, z ∈ ebl ys2 → z ∈ L') → ∀ e, e ∈ ys2 → e.i.f.At W L' := fun L' h e he => (hyo2 e he).at0.mono fun z hz => h z (mem_ebl he hz)
      have hfy : ∀ e, e ∈ ys → e.i.f.Few := fun e he => by
        have : e.a ∈ es.map En.a := hya ▸ List.mem_map.2 ⟨e, he, rfl⟩
        obtain ⟨u, hu, he2⟩ := List.mem_map.1 this
        exact Fr.few_of (En.a_f he2.symm) (hq.few u hu)
      have hfy2 : ∀ e, e ∈ ys2 → e.i.f.Few := fun e he => by
        have : e.a ∈ es2.map En.a := hm2 ▸ hya2 ▸ List.mem_map.2 ⟨e, he, rfl⟩
        obtain ⟨u, hu, he2⟩ := List.mem_map.1 this
        exact Fr.few_of (En.a_f he2.symm) (hok2.few u hu)
      have hyl2 : ys2.length ≤ 1000000 := by
        have h := congrArg List.length (hya2.trans hm2.symm)
        rw [List.length_map, List.length_map] at h
        omega
      refine xc_join (ι := Unit) (fun _ => True) (fun _ => (r16, Obj.cells kf.enc.toArray 41 (0, 0)) :: (r, Obj.cells (qcl B ca bg p2 es2.length c2).toArray 108 (0, 0)) :: (l2 ++ (lw2 ++ (ebl ys2 ++ (N2 ++ ((r98, Obj.cells x.enc.toArray 45 (0, 0)) :: (r19, Obj.cells x.enc.toArray 45 (0, 0)) :: (y.i.f.bl ++ (lw ++ (ebl ys ++ M))))))))) (fun _ => [(0, .int .i64 B), (1, .bool ca), (2, .slice (some ⟨b2, o2, none⟩) n c), (7, .pointer (some ⟨r, 0, none⟩)), (9, .int .i64 came2), (10, .int .i64 gone), (11, .int .i64 ((ev + P.2 : Nat) : Int)), (12, .int .i64 last), (13, .int .i64 i), (14, .slice q ys.length k), (16, .pointer (some ⟨r16, 0, none⟩)), (17, .bool kb2), (18, .int .i64 kk), (20, .slice q2 ys2.length k2)]) ?_ ?_
      · cases hbgv : bg with
        | false =>
          focus
            refine xc_seq ?_
            refine xc_drawML [0, 1, 2, 6, 10, 18, 32, 96, 160, 288, 544, 32, 2080, 4128, 8224, 16416, 33824, 65568, 131106, 262146] [0, 1, 2, 6, 10, 18, 32, 96, 160, 288, 544, 32, 2080, 4128, 8224, 16416, 33824, 65568, 131106, 262146] (by kernel_rfl) (by kernel_rfl) (by kernel_rfl) ?_
            refine xm_take 0 (m' := 1) rfl (by kernel_rfl) Sb.refl (rd_move rfl) rfl (by kernel_rfl) ?_
            refine xm_take 1 (m' := 3) rfl (by kernel_rfl) Sb.refl (rd_move rfl) rfl (by kernel_rfl) ?_
            refine xm_gskip 2 (m' := 7) rfl (by kernel_rfl) Sb.refl rfl rfl rfl rfl (by kernel_rfl) ?_
            refine xm_gskip 3 (m' := 15) rfl (by kernel_rfl) Sb.refl rfl rfl rfl rfl (by kernel_rfl) ?_
            refine xm_gskip 4 (m' := 31) rfl (by kernel_rfl) Sb.refl rfl rfl rfl rfl (by kernel_rfl) ?_
            refine xm_gskip 5 (m' := 63) rfl (by kernel_rfl) Sb.refl rfl rfl rfl rfl (by kernel_rfl) ?_
            refine xm_gskipU 6 (m' := 127) rfl (by kernel_rfl) Sb.refl rfl rfl rfl (by kernel_rfl) ?_
            refine xm_gskipU 7 (m' := 255) rfl (by kernel_rfl) Sb.refl rfl rfl rfl (by kernel_rfl) ?_
            refine xm_gskipU 8 (m' := 511) rfl (by kernel_rfl) Sb.refl rfl rfl rfl (by kernel_rfl) ?_
            refine xm_gskipU 9 (m' := 1023) rfl (by kernel_rfl) Sb.refl rfl rfl rfl (by kernel_rfl) ?_
            refine xm_gskipU 10 (m' := 2047) rfl (by kernel_rfl) Sb.refl rfl rfl rfl (by kernel_rfl) ?_
            refine xm_gskipU 11 (m' := 4095) rfl (by kernel_rfl) Sb.refl rfl rfl rfl (by kernel_rfl) ?_
            refine xm_gskipU 12 (m' := 8191) rfl (by kernel_rfl) Sb.refl rfl rfl rfl (by kernel_rfl) ?_
            refine xm_gskipU 13 (m' := 16383) rfl (by kernel_rfl) Sb.refl rfl rfl rfl (by kernel_rfl) ?_
            refine xm_gskipU 14 (m' := 32767) rfl (by kernel_rfl) Sb.refl rfl rfl rfl (by kernel_rfl) ?_
            refine xm_gskipU 15 (m' := 65535) rfl (by kernel_rfl) Sb.refl rfl rfl rfl (by kernel_rfl) ?_
            refine xm_gskipU 16 (m' := 131071) rfl (by kernel_rfl) Sb.refl rfl rfl rfl (by kernel_rfl) ?_
            refine xm_gskipU 17 (m' := 262143) rfl (by kernel_rfl) Sb.refl rfl rfl rfl (by kernel_rfl) ?_
            refine xm_gskip 18 (m' := 524287) rfl (by kernel_rfl) Sb.refl rfl rfl rfl rfl (by kernel_rfl) ?_
            refine xm_take 19 (m' := 1048575) rfl (by kernel_rfl) Sb.refl (rd_pickf rfl rfl) rfl (by kernel_rfl) ?_
            refine xm_done (by kernel_rfl) ?_
            refine xq_seq ?_
            refine xc_condf rfl ?_
            refine xc_skip ?_
          exact xq_joined () trivial rfl (by repeat (first | exact keep_nil | refine keep_cons rfl ?_))
        | true =>
          obtain ⟨a0, r0, ha0, ha0l⟩ := hhd hbgv
          obtain ⟨r1, hr1⟩ := hK5 hbgv a0 r0 ha0 ha0l
          rw [ha0] at hya
          rw [hr1] at hya2
          cases ys with
          | nil => cases hya
          | cons y0 yt =>
          cases ys2 with
          | nil => cases hya2
          | cons z0 zt =>
          have hyz : z0.i.f.a = y0.i.f.a := by
            rw [List.map_cons, List.cons.injEq] at hya hya2
            exact En.a_f (hya2.1.trans hya.1.symm)
          subst hbgv
          have hRy := hyq.rs (W := W) (L := (r16, Obj.cells kf.enc.toArray 41 (0, 0)) :: (r, Obj.cells (qcl B ca true p2 es2.length c2).toArray 108 (0, 0)) :: (l2 ++ (lw2 ++ (ebl (z0 :: zt) ++ (N2 ++ ((r98, Obj.cells x.enc.toArray 45 (0, 0)) :: (r19, Obj.cells x.enc.toArray 45 (0, 0)) :: (y.i.f.bl ++ (lw ++ (ebl (y0 :: yt) ++ M))))))))) (by intro z hz; simp [hz])
          have hRz := hyq2.rs (W := W) (L := (r16, Obj.cells kf.enc.toArray 41 (0, 0)) :: (r, Obj.cells (qcl B ca true p2 es2.length c2).toArray 108 (0, 0)) :: (l2 ++ (lw2 ++ (ebl (z0 :: zt) ++ (N2 ++ ((r98, Obj.cells x.enc.toArray 45 (0, 0)) :: (r19, Obj.cells x.enc.toArray 45 (0, 0)) :: (y.i.f.bl ++ (lw ++ (ebl (y0 :: yt) ++ M))))))))) (by intro z hz; simp [hz])
          obtain ⟨by', oy, hqy, hcy⟩ := hRy.rows En.len (by decide) (Nat.succ_pos _)
          obtain ⟨bz, oz, hqz, hcz⟩ := hRz.rows En.len (by decide) (Nat.succ_pos _)
          subst hqy hqz
          have fy := en_frm (j := 0) (hcy 0 (Nat.succ_pos _))
          have fz := en_frm (j := 0) (hcz 0 (Nat.succ_pos _))
          rw [List.getElem_cons_zero] at fy fz
          have haty0 := fun L' h => haty L' h y0 (List.mem_cons_self ..)
          have haty1 := fun L' h => haty2 L' h z0 (List.mem_cons_self ..)
          have hfz := hfy2 z0 (List.mem_cons_self ..)
          focus
            refine xc_seq ?_
            refine xc_drawML [0, 1, 2, 6, 10, 18, 32, 96, 160, 288, 544, 32, 2080, 4128, 8224, 16416, 33824, 65568, 131106, 262146] [0, 1, 2, 6, 10, 18, 32, 96, 160, 288, 544, 32, 2080, 4128, 8224, 16416, 33824, 65568, 131106, 262146] (by kernel_rfl) (by kernel_rfl) (by kernel_rfl) ?_
            refine xm_take 0 (m' := 1) rfl (by kernel_rfl) Sb.refl (rd_move rfl) rfl (by kernel_rfl) ?_
            refine xm_take 1 (m' := 3) rfl (by kernel_rfl) Sb.refl (rd_move rfl) rfl (by kernel_rfl) ?_
            refine xm_gtake 2 (m' := 7) rfl (by kernel_rfl) Sb.refl rfl rfl (rd_move rfl) rfl (by kernel_rfl) ?_
            refine xm_gtake 3 (m' := 15) rfl (by kernel_rfl) Sb.refl rfl rfl (rd_len rfl) rfl (by kernel_rfl) ?_
            refine xm_gtake 4 (m' := 31) rfl (by kernel_rfl) Sb.refl rfl rfl (rd_cast (v' := .bool false) (rd_eql rfl rfl) (congrArg Value.bool (decide_eq_false (by show ¬ ((zt.length + 1 : Nat) : Int) = 0; omega)))) rfl (by kernel_rfl) ?_
            refine xm_gtake 5 (m' := 63) rfl (by kernel_rfl) Sb.refl rfl rfl (rd_move rfl) rfl (by kernel_rfl) ?_
            refine xm_gtake 6 (m' := 127) rfl (by kernel_rfl) Sb.refl rfl rfl (rd_move rfl) rfl (by kernel_rfl) ?_
            refine xm_gtake 7 (m' := 255) rfl (by kernel_rfl) Sb.refl rfl rfl (rd_indexAddr rfl rfl (by decide) (by show (0 : Int) < ((zt.length + 1 : Nat) : Int); omega)) rfl (by kernel_rfl) ?_
            refine xm_gtake 8 (m' := 511) rfl (by kernel_rfl) Sb.refl rfl rfl (rd_fieldAddr rfl) rfl (by kernel_rfl) ?_
            refine xm_gtake 9 (m' := 1023) rfl (by kernel_rfl) Sb.refl rfl rfl (rd_fieldAddr rfl) rfl (by kernel_rfl) ?_
            refine xm_gtake 10 (m' := 2047) rfl (by kernel_rfl) Sb.refl rfl rfl (rd_loadA (vs := z0.i.f.enc) rfl rfl fz) rfl (by kernel_rfl) ?_
            refine xm_gtake 11 (m' := 4095) rfl (by kernel_rfl) Sb.refl rfl rfl (rd_move rfl) rfl (by kernel_rfl) ?_
            refine xm_gtake 12 (m' := 8191) rfl (by kernel_rfl) Sb.refl rfl rfl (rd_indexAddr rfl rfl (by decide) (by show (0 : Int) < ((yt.length + 1 : Nat) : Int); omega)) rfl (by kernel_rfl) ?_
            refine xm_gtake 13 (m' := 16383) rfl (by kernel_rfl) Sb.refl rfl rfl (rd_fieldAddr rfl) rfl (by kernel_rfl) ?_
            refine xm_gtake 14 (m' := 32767) rfl (by kernel_rfl) Sb.refl rfl rfl (rd_fieldAddr rfl) rfl (by kernel_rfl) ?_
            refine xm_gtake 15 (m' := 65535) rfl (by kernel_rfl) Sb.refl rfl rfl (rd_loadA (vs := y0.i.f.enc) rfl rfl fy) rfl (by kernel_rfl) ?_
            refine xm_gone 16 (m' := 131071) rfl (by kernel_rfl) rfl rfl rfl (by kernel_rfl) (ef_call rfl (XF.mono (xf_FSame z0.i.f y0.i.f (haty1 _ (by intro z hz; simp [hz])) (haty0 _ (by intro z hz; simp [hz])) hfz true (decide_eq_true hyz)) ?_))
            rintro v L' ⟨rfl, rfl⟩
            refine ⟨Sb.refl, ?_⟩
            refine xm_gtake 17 (m' := 262143) rfl (by kernel_rfl) Sb.refl rfl rfl (rd_not rfl) rfl (by kernel_rfl) ?_
            refine xm_gtake 18 (m' := 524287) rfl (by kernel_rfl) Sb.refl rfl rfl (rd_pickf rfl rfl) rfl (by kernel_rfl) ?_
            refine xm_take 19 (m' := 1048575) rfl (by kernel_rfl) Sb.refl (rd_pickt rfl rfl) rfl (by kernel_rfl) ?_
            refine xm_done (by kernel_rfl) ?_
            refine xq_seq ?_
            refine xc_condf rfl ?_
            refine xc_skip ?_
          all_goals exact xq_joined () trivial rfl (by repeat (first | exact keep_nil | refine keep_cons rfl ?_))
      rintro ⟨⟩ _
      have hJ : (KpS.mk (i + 1) bg es2 p2 c2 l2 (N2 ++ M) last came2 gone (ev + P.2)).i = i + 1 ∧ KpS.Ok W B ca r (KpS.mk (i + 1) bg es2 p2 c2 l2 (N2 ++ M) last came2 gone (ev + P.2)) := by
        refine ⟨rfl, ⟨hok2, ?_, ?_, ?_, ?_, ?_, ?_, ?_, ?_⟩⟩
        · dsimp only; rw [hm2]; exact hK1
        · dsimp only; rw [hm2]; exact hkp.put hlt (by omega) hK4 hxm
        · dsimp only; omega
        · dsimp only; rw [hm2]; exact hK3
        · dsimp only
          intro hb
          obtain ⟨a0, r0, ha0, ha0l⟩ := hhd hb
          obtain ⟨r1, hr1⟩ := hK5 hb a0 r0 ha0 ha0l
          exact ⟨a0, r1, hm2.trans hr1, ha0l⟩
        · dsimp only; rw [hm2, hxc]
          have : (if x.a.lo = true then 0 else 1 : Nat) = (if x.i.lo = true then 0 else 1) := rfl
          omega
        · dsimp only
          have : (if x.i.lo = true then 0 else 1 : Nat) ≤ 1 := by split <;> omega
          omega
        · dsimp only; omega
      cases kb2 with
      | false =>
        focus
          refine xc_seq ?_
          refine xc_region ?_
          refine xo_rd (rd_move rfl) rfl ?_
          refine xo_rd (rd_move rfl) rfl ?_
          refine xo_split 124 rfl (fun h1 => ?_) (fun h1 => ?_)
          refine xo_grd rfl rfl (rd_move rfl) rfl ?_
          refine xo_rd (rd_pickt rfl rfl) rfl ?_
          refine xo_rd (rd_move rfl) rfl ?_
          refine xo_gskip rfl rfl rfl rfl ?_
          refine xo_gskip rfl rfl rfl rfl ?_
          refine xo_gskip rfl rfl rfl rfl ?_
          refine xo_gskip rfl rfl rfl rfl ?_
          refine xo_gskip rfl rfl rfl rfl ?_
          refine xo_rd (rd_pickf rfl rfl) rfl ?_
          refine xo_rd (rd_move rfl) rfl ?_
          refine xo_gskip rfl rfl rfl rfl ?_
          refine xo_gskip rfl rfl rfl rfl ?_
          refine xo_gskip rfl rfl rfl rfl ?_
          refine xo_gskip rfl rfl rfl rfl ?_
          refine xo_rd (rd_pickf rfl rfl) rfl ?_
          refine xo_nil ?_
          refine xq_seq ?_
          refine xc_condf rfl ?_
          refine xc_skip ?_
          rotate_left
          refine xo_gskip rfl rfl rfl rfl ?_
          refine xo_rd (rd_pickf rfl rfl) rfl ?_
          refine xo_rd (rd_move rfl) rfl ?_
          refine xo_gskip rfl rfl rfl rfl ?_
          refine xo_gskip rfl rfl rfl rfl ?_
          refine xo_gskip rfl rfl rfl rfl ?_
          refine xo_gskip rfl rfl rfl rfl ?_
          refine xo_gskip rfl rfl rfl rfl ?_
          refine xo_rd (rd_pickf rfl rfl) rfl ?_
          refine xo_rd (rd_move rfl) rfl ?_
          refine xo_gskip rfl rfl rfl rfl ?_
          refine xo_gskip rfl rfl rfl rfl ?_
          refine xo_gskip rfl rfl rfl rfl ?_
          refine xo_gskip rfl rfl rfl rfl ?_
          refine xo_rd (rd_pickf rfl rfl) rfl ?_
          refine xo_nil ?_
          refine xq_seq ?_
          refine xc_condf rfl ?_
          refine xc_skip ?_
          rotate_left
        all_goals exact xq_sub (sub_k1 l2 lw2 (ebl ys2) N2 y.i.f.bl lw (ebl ys) M) (xq_joined (KpS.mk (i + 1) bg es2 p2 c2 l2 (N2 ++ M) last came2 gone (ev + P.2)) hJ rfl (by repeat (first | exact keep_nil | refine keep_cons rfl ?_)))
      | true =>
        obtain ⟨hkl, ek, hek, rfl⟩ := hkf rfl
        have hemem : ek ∈ ys := List.mem_of_getElem? hek
        obtain ⟨st, hst⟩ : ∃ st, (ys2.any fun e => !e.i.lo && decide (e.i.f.a = ek.i.f.a)) = st := ⟨_, rfl⟩
        have hs36 := fun L' (h : ∀ z, z ∈ lw2 → z ∈ L') (h2 : ∀ z, z ∈ ebl ys2 → z ∈ L') (h3 : ∀ z, z ∈ ebl ys → z ∈ L') => xf_stays (W := W) (L := L') q2 ys2.length k2 ys2 rfl (hyq2.rs h) hyl2 (haty2 L' h2) hfy2 ek.i.f (haty L' h3 ek hemem)
        rw [hst] at hs36
        have h35a := fun L' (h : ∀ z, z ∈ lw2 → z ∈ L') => xf_llat (W := W) (L := L') q2 ys2.length k2 ys2 rfl (hyq2.rs h) hyl2
        have h35b := fun L' (h : ∀ z, z ∈ lw → z ∈ L') => xf_llat (W := W) (L := L') q ys.length k ys rfl (hyq.rs h) (by omega)
        rw [hya2] at h35a
        rw [hya] at h35b
        focus
          refine xc_seq ?_
          refine xc_region ?_
          refine xo_rd (rd_move rfl) rfl ?_
          refine xo_rd (rd_move rfl) rfl ?_
          refine xo_split 124 rfl (fun hw1 => ?_) (fun hw1 => ?_)
          refine xo_grd rfl rfl (rd_move rfl) rfl ?_
          refine xo_rd (rd_pickt rfl rfl) rfl ?_
          refine xo_rd (rd_move rfl) rfl ?_
          refine xo_grd rfl rfl (rd_move rfl) rfl ?_
          refine xo_gef rfl rfl rfl (ef_call rfl (XF.mono (h35a _ (by intro z hz; simp [hz])) ?_))
          rintro v L' ⟨rfl, rfl⟩
          refine xo_grd rfl rfl (rd_move rfl) rfl ?_
          refine xo_gef rfl rfl rfl (ef_call rfl (XF.mono (h35b _ (by intro z hz; simp [hz])) ?_))
          rintro v L' ⟨rfl, rfl⟩
          refine xo_grd rfl rfl (rd_eql rfl rfl) rfl ?_
          refine xo_rd (rd_pickt rfl rfl) rfl ?_
          refine xo_rd (rd_move rfl) rfl ?_
          refine xo_dec 134 rfl (fun hw2 => ?_) (fun hw2 => ?_)
          refine xo_grd rfl rfl (rd_move rfl) rfl ?_
          refine xo_grd rfl rfl (rd_loadB rfl Kn.o0 (by rfl)) rfl ?_
          refine xo_gef rfl rfl rfl (ef_call rfl (XF.mono (hs36 _ (by intro z hz; simp [hz]) (by intro z hz; simp [hz]) (by intro z hz; simp [hz])) ?_))
          rintro v L' ⟨rfl, rfl⟩
          refine xo_grd rfl rfl (rd_not rfl) rfl ?_
          refine xo_rd (rd_pickt rfl rfl) rfl ?_
          refine xo_nil ?_
          refine xq_seq ?_
          refine xc_cond rfl (fun hw3 => ?_) (fun hw3 => ?_)
          refine xc_seq ?_
          refine xc_region ?_
          refine xo_rd (rd_assign rfl) rfl ?_
          refine xo_nil ?_
          refine xq_seq ?_
          refine xc_ret ?_
          refine xq_then_ret ?_
          refine xq_block_ret ?_
          refine xq_then_ret ?_
          refine xq_then_ret ?_
          refine xq_block_ret ?_
          refine xq_then_ret ?_
          rotate_left
          refine xc_skip ?_
          rotate_left
          refine xo_gskip rfl rfl rfl rfl ?_
          refine xo_gskip rfl rfl rfl rfl ?_
          refine xo_gskip rfl rfl rfl rfl ?_
          refine xo_gskip rfl rfl rfl rfl ?_
          refine xo_rd (rd_pickf rfl rfl) rfl ?_
          refine xo_nil ?_
          refine xq_seq ?_
          refine xc_condf rfl ?_
          refine xc_skip ?_
          rotate_left
          refine xo_gskip rfl rfl rfl rfl ?_
          refine xo_rd (rd_pickf rfl rfl) rfl ?_
          refine xo_rd (rd_move rfl) rfl ?_
          refine xo_gskip rfl rfl rfl rfl ?_
          refine xo_gskip rfl rfl rfl rfl ?_
          refine xo_gskip rfl rfl rfl rfl ?_
          refine xo_gskip rfl rfl rfl rfl ?_
          refine xo_gskip rfl rfl rfl rfl ?_
          refine xo_rd (rd_pickf rfl rfl) rfl ?_
          refine xo_rd (rd_move rfl) rfl ?_
          refine xo_gskip rfl rfl rfl rfl ?_
          refine xo_gskip rfl rfl rfl rfl ?_
          refine xo_gskip rfl rfl rfl rfl ?_
          refine xo_gskip rfl rfl rfl rfl ?_
          refine xo_rd (rd_pickf rfl rfl) rfl ?_
          refine xo_nil ?_
          refine xq_seq ?_
          refine xc_condf rfl ?_
          refine xc_skip ?_
          rotate_left
        · exfalso
          have hkk2 : (es.map En.a)[keptA true bg (es.map En.a)]? = some ek.a := by
            rw [← hya, List.getElem?_map, hya, hek]; rfl
          have hkl2 : keptA true bg (es.map En.a) < (es.map En.a).length := (List.getElem?_eq_some_iff.1 hkk2).1
          have hm := hK6 hw1 hkl2 hw2 ek.a hkk2
          have hkey := first_spec hkl2
          rw [show first (keyA true bg (es.map En.a)) (es.map En.a).length = keptA true bg (es.map En.a) from rfl, key_iff hkk2, fresh_iff hkk2] at hkey
          simp only [Bool.and_eq_true] at hkey
          rw [← hya2] at hm
          obtain ⟨z, hz, hze⟩ := List.mem_map.1 hm
          have hzl : z.i.lo = ek.i.lo := congrArg Ea.lo hze
          have hst1 : st = true := by
            rw [← hst]
            refine List.any_eq_true.2 ⟨z, hz, ?_⟩
            rw [hzl, decide_eq_true (En.a_f hze), Bool.and_true]
            exact hkey.1.1
          rw [hst1] at hw3
          cases hw3
        all_goals exact xq_sub (sub_k1 l2 lw2 (ebl ys2) N2 y.i.f.bl lw (ebl ys) M) (xq_joined (KpS.mk (i + 1) bg es2 p2 c2 l2 (N2 ++ M) last came2 gone (ev + P.2)) hJ rfl (by repeat (first | exact keep_nil | refine keep_cons rfl ?_)))
    · clear hq hstl hkp hlt hfr hhd hsum hci hlen hqr hAll hbg hyl hes hkp2 hyq hyo hya hkf
      rintro ⟨i', bg, es, p1, c1, l, M, last, came, gone, ev⟩ ⟨hi', hok⟩
      dsimp only at hi'
      subst hi'
      have hokk := hok
      obtain ⟨hq, hstl, hkp, hlt, hfr, hhd, hsum, hci, hlen⟩ := hok
      dsimp only at hq hstl hkp hlt hfr hhd hsum hci hlen
      rw [kpL_mk]
      dsimp only
      refine xc_join (ι := KpS) (fun s => s.i = i + 1 ∧ s.Ok W B ca r) (fun s => kpL B ca r s) (fun s => [(0, .int .i64 B), (1, .bool ca), (2, .slice (some ⟨b2, o2, none⟩) n c), (7, .pointer (some ⟨r, 0, none⟩)), (9, .int .i64 s.came), (10, .int .i64 s.gone), (11, .int .i64 s.ev), (12, .int .i64 s.last), (13, .int .i64 i), (18, .int .i64 kk)]) ?_ ?_
      · have hqb := fun R (h : ∀ z, z ∈ l → z ∈ R) => xf_Begin (W := W) (R := R) r B ca bg es p1 c1 (hq.o.rs h)
        focus
          refine xc_seq ?_
          refine xc_region ?_
          refine xo_rd (rd_move rfl) rfl ?_
          refine xo_rd (rd_eql rfl rfl) rfl ?_
          refine xo_nil ?_
          refine xq_seq ?_
          refine xc_dec rfl (fun hw1 => ?_) (fun hw1 => ?_)
          refine xc_region ?_
          refine xo_rd (rd_move rfl) rfl ?_
          refine xo_ef rfl (ef_call rfl (XF.mono (hqb _ (by intro z hz; simp [hz])) ?_))
          rintro v L' ⟨rfl, rfl⟩
          refine xo_nil ?_
          rotate_left
          refine xc_skip ?_
          rotate_left
        · refine xq_joined (⟨i + 1, bg || freshA (es.map En.a) bg 0, es, p1, c1, l, M, last, came, gone, ev⟩ : KpS) ⟨rfl, ⟨⟨hq.o, hq.at', hq.few, hq.len⟩, hstl, hkp, hlt, hfr, fun h => ?_, hsum, hci, hlen⟩⟩ rfl (by repeat (first | exact keep_nil | refine keep_cons rfl ?_))
          dsimp only at h ⊢
          rcases Bool.or_eq_true_iff.1 h with h1 | h1
          · exact hhd h1
          · cases hem : es.map En.a with
            | nil => rw [hem] at h1; cases h1
            | cons a0 r0 =>
              rw [hem, fresh_iff (a := a0) rfl] at h1
              simp only [Bool.and_eq_true] at h1
              exact ⟨a0, r0, rfl, by simpa using h1.1⟩
        · exact xq_joined (⟨i + 1, bg, es, p1, c1, l, M, last, came, gone, ev⟩ : KpS) ⟨rfl, hokk⟩ rfl (by repeat (first | exact keep_nil | refine keep_cons rfl ?_))
      clear hokk hq hstl hkp hlt hfr hhd hsum hci hlen
      rintro ⟨i', bg, es, p1, c1, l, M, last, came, gone, ev⟩ ⟨hi', hok⟩
      dsimp only at hi'
      subst hi'
      have hokk := hok
      obtain ⟨hq, hstl, hkp, hlt, hfr, hhd, hsum, hci, hlen⟩ := hok
      dsimp only at hq hstl hkp hlt hfr hhd hsum hci hlen
      rw [kpL_mk]
      dsimp only
      refine xc_join (ι := KpS) (fun s => s.i = i + 1 ∧ s.Ok W B ca r) (fun s => kpL B ca r s) (fun s => [(0, .int .i64 B), (1, .bool ca), (2, .slice (some ⟨b2, o2, none⟩) n c), (7, .pointer (some ⟨r, 0, none⟩)), (9, .int .i64 s.came), (10, .int .i64 s.gone), (11, .int .i64 s.ev), (12, .int .i64 s.last), (13, .int .i64 i)]) ?_ ?_
      · by_cases hk4 : kk = 4
        case neg =>
          focus
            refine xc_seq ?_
            refine xc_region ?_
            refine xo_rd (rd_move rfl) rfl ?_
            refine xo_rd (rd_eql rfl rfl) rfl ?_
            refine xo_nil ?_
            refine xq_seq ?_
            refine xc_dec rfl (fun h1 => (by exfalso; omega)) (fun h1 => ?_)
            refine xc_skip ?_
          exact xq_joined (⟨i + 1, bg, es, p1, c1, l, M, last, came, gone, ev⟩ : KpS) ⟨rfl, hokk⟩ rfl (by repeat (first | exact keep_nil | refine keep_cons rfl ?_))
        subst hk4
        cases es with
        | nil =>
          have hq0 := fun L' (h : ∀ z, z ∈ ((r, Obj.cells (qcl B ca bg p1 ([] : List En).length c1).toArray 108 (0, 0)) :: l : List Blk) → z ∈ L') => xf_Shift0 (W := W) (L := L') (Qs.mk r B ca bg [] p1 c1 l) (hq.qr h) rfl
          focus
            refine xc_seq ?_
            refine xc_region ?_
            refine xo_rd (rd_move rfl) rfl ?_
            refine xo_rd (rd_eql rfl rfl) rfl ?_
            refine xo_nil ?_
            refine xq_seq ?_
            refine xc_condt rfl ?_
            refine xc_seq ?_
            refine xc_region ?_
            refine xo_rd (rd_move rfl) rfl ?_
            refine xo_ef rfl (ef_call rfl (XF.mono (hq0 _ (mem_h _ _)) ?_))
            rintro v L' ⟨rfl, rfl⟩
            refine xo_rd (rd_move rfl) rfl ?_
            refine xo_rd (rd_extract rfl rfl) rfl ?_
            refine xo_rd (rd_extract rfl rfl) rfl ?_
            refine xo_ef rfl (ef_alloc fun r21 => ?_)
            refine xo_ef rfl (ef_storeB [] _ rfl rfl (by first | rfl | assumption) rfl rfl rfl ?_)
            refine xo_rd (rd_assign rfl) rfl ?_
            refine xo_nil ?_
            refine xq_seq ?_
            refine xc_seq ?_
            refine xc_region ?_
            refine xo_rd (rd_move rfl) rfl ?_
            refine xo_rd (rd_move rfl) rfl ?_
            refine xo_gskip rfl rfl rfl rfl ?_
            refine xo_gskip rfl rfl rfl rfl ?_
            refine xo_gskip rfl rfl rfl rfl ?_
            refine xo_gskip rfl rfl rfl rfl ?_
            refine xo_rd (rd_pickf rfl rfl) rfl ?_
            refine xo_nil ?_
            refine xq_seq ?_
            refine xc_condf rfl ?_
            refine xc_skip ?_
          exact xq_sub (List.sublist_cons_self _ _) (xq_joined (⟨i + 1, bg, [], p1, c1, l, M, last, came, gone, ev⟩ : KpS) ⟨rfl, hokk⟩ rfl (by repeat (first | exact keep_nil | refine keep_cons rfl ?_)))
        | cons e es =>
          have hqs := fun M' (h : ∀ z, z ∈ M → z ∈ M') => xf_Shift (W := W) (M := M') (M0 := M) r B ca bg e es p1 c1 l hq h
          focus
            refine xc_seq ?_
            refine xc_region ?_
            refine xo_rd (rd_move rfl) rfl ?_
            refine xo_rd (rd_eql rfl rfl) rfl ?_
            refine xo_nil ?_
            refine xq_seq ?_
            refine xc_condt rfl ?_
            refine xc_seq ?_
            refine xc_region ?_
            refine xo_rd (rd_move rfl) rfl ?_
            refine xo_ef rfl (ef_call rfl (XF.mono (hqs _ (fun _ h => h)) ?_))
            rintro v L' ⟨y, p2, c2, rfl, hya, hyo, hok2, rfl⟩
            refine xo_perm (perm_k7 y.i.f.bl l M) ?_
            refine xo_rd (rd_move rfl) rfl ?_
            refine xo_rd (rd_extract rfl rfl) rfl ?_
            refine xo_rd (rd_extract rfl rfl) rfl ?_
            refine xo_ef rfl (ef_alloc fun r21 => ?_)
            refine xo_ef rfl (ef_storeB [] _ rfl rfl (by first | rfl | assumption) rfl rfl rfl ?_)
            refine xo_rd (rd_assign rfl) rfl ?_
            refine xo_nil ?_
            refine xq_seq ?_
          have hyf := Fr.few_of (En.a_f hya) (hq.few e (List.mem_cons_self ..))
          have hJ : (KpS.mk (i + 1) false es p2 c2 l M (if e.a.lo = true then last else e.a.f.i.pic) came (if e.a.lo = true then gone else gone + 1) ev).i = i + 1 ∧ KpS.Ok W B ca r (KpS.mk (i + 1) false es p2 c2 l M (if e.a.lo = true then last else e.a.f.i.pic) came (if e.a.lo = true then gone else gone + 1) ev) := by
            have hfc : framesA ((e :: es).map En.a) = framesA (es.map En.a) + (if e.a.lo = true then 0 else 1) := by
              unfold framesA
              rw [List.map_cons, List.countP_cons]
              cases e.a.lo <;> rfl
            rw [hfc] at hsum hfr
            rw [List.map_cons] at hstl hkp
            refine ⟨rfl, ⟨hok2, stl_shift hstl, hkp.drop, ?_, ?_, (fun h => by cases h), ?_, hci, ?_⟩⟩
            · dsimp only
              split
              · exact hlt
              · rename_i hl
                exact (hkp.head (by simpa using hl)).2.1
            · dsimp only; omega
            · dsimp only
              cases hl : e.a.lo with
              | true => rw [hl] at hsum; rw [if_pos rfl] at hsum ⊢; omega
              | false => rw [hl] at hsum; rw [if_neg (by decide)] at hsum ⊢; omega
            · dsimp only
              rw [List.length_cons] at hlen; omega
          rw [← hya] at hJ
          focus
            refine xc_seq ?_
            refine xc_region ?_
            refine xo_rd (rd_move rfl) rfl ?_
            refine xo_rd (rd_move rfl) rfl ?_
            refine xo_grd rfl rfl (rd_fieldAddr rfl) rfl ?_
            refine xo_grd rfl rfl (rd_fieldAddr rfl) rfl ?_
            refine xo_grd rfl rfl (rd_load1 rfl (Cl.o0 rfl)) rfl ?_
            refine xo_grd rfl rfl (rd_not rfl) rfl ?_
            refine xo_rd (rd_pickt rfl rfl) rfl ?_
            refine xo_nil ?_
            refine xq_seq ?_
            refine xc_cond rfl (fun hz1 => ?_) (fun hz1 => ?_)
            refine xc_seq ?_
            refine xc_region ?_
            refine xo_rd (rd_move rfl) rfl ?_
            refine xo_rd (rd_addn rfl rfl (by omega) (by omega)) rfl ?_
            refine xo_rd (rd_assign rfl) rfl ?_
            refine xo_nil ?_
            refine xq_seq ?_
            rotate_left
            refine xc_skip ?_
            rotate_left
          · have hlo : y.i.lo = false := by simpa using hz1
            rw [show y.a.lo = false from hlo, if_neg (by decide), if_neg (by decide), show y.a.f.i.pic = y.i.f.i.pic from rfl] at hJ
            have hhe := hkp.head (e := e.a) (by rw [← hya]; exact hlo)
            rw [← hya, show y.a.f.i.pic = y.i.f.i.pic from rfl, show y.a.f = y.i.f.a from rfl, show y.i.f.a.k = y.i.f.k from rfl] at hhe
            obtain ⟨hpl, hpi, hyF⟩ := hhe
            have hp0 : 0 ≤ y.i.f.i.pic ∧ y.i.f.i.pic < 32768 := by
              have h : y.i.f.i.pic = y.i.f.i.pic % 32768 := congrArg (fun f : Fa => f.i.pic) hyF
              omega
            have hmd := fun L' => xf_Made (W := W) (L := L') y.i.f.k y.i.f.i.pic ⟨hp0.1, by omega⟩
            focus
              refine xc_seq ?_
              refine xc_seq ?_
              refine xc_drawML [0, 1, 2, 4, 8, 16, 0, 96, 128, 256, 768, 1280, 256, 4352, 8448, 16640, 33024, 256, 131328, 262400, 524544, 1048832, 2097408, 4260096, 8390912, 16777472, 33554688] [0, 1, 2, 4, 8, 16, 0, 96, 128, 256, 768, 1280, 256, 4352, 8448, 16640, 33024, 256, 131328, 262400, 524544, 1048832, 2097408, 4260096, 8390912, 16777472, 33554688] (by kernel_rfl) (by kernel_rfl) (by kernel_rfl) ?_
              refine xm_take 0 (m' := 1) rfl (by kernel_rfl) Sb.refl (rd_fieldAddr rfl) rfl (by kernel_rfl) ?_
              refine xm_take 1 (m' := 3) rfl (by kernel_rfl) Sb.refl (rd_fieldAddr rfl) rfl (by kernel_rfl) ?_
              refine xm_take 2 (m' := 7) rfl (by kernel_rfl) Sb.refl (rd_fieldAddr rfl) rfl (by kernel_rfl) ?_
              refine xm_take 3 (m' := 15) rfl (by kernel_rfl) Sb.refl (rd_fieldAddr rfl) rfl (by kernel_rfl) ?_
              refine xm_take 4 (m' := 31) rfl (by kernel_rfl) Sb.refl (rd_load1 rfl (Cl.o0 rfl)) rfl (by kernel_rfl) ?_
              refine xm_take 5 (m' := 63) rfl (by kernel_rfl) Sb.refl (rd_convn rfl (by omega) (by omega)) rfl (by kernel_rfl) ?_
              refine xm_take 6 (m' := 127) rfl (by kernel_rfl) Sb.refl (rd_move rfl) rfl (by kernel_rfl) ?_
              refine xm_take 7 (m' := 255) rfl (by kernel_rfl) Sb.refl (rd_leq rfl rfl) rfl (by kernel_rfl) ?_
              refine xm_take 8 (m' := 511) rfl (by kernel_rfl) Sb.refl (rd_move rfl) rfl (by kernel_rfl) ?_
              refine xm_dec 168 rfl (fun hw1 => (by exfalso; omega)) (fun hw1 => ?_)
              refine xm_gtake 9 (m' := 1023) rfl (by kernel_rfl) Sb.refl rfl rfl (rd_fieldAddr rfl) rfl (by kernel_rfl) ?_
              refine xm_gtake 10 (m' := 2047) rfl (by kernel_rfl) Sb.refl rfl rfl (rd_fieldAddr rfl) rfl (by kernel_rfl) ?_
              refine xm_gtake 11 (m' := 4095) rfl (by kernel_rfl) Sb.refl rfl rfl (rd_loadA (vs := y.i.f.enc) rfl rfl (cl_sub (b := r21) (vs := y.enc) (T := 45) (fr := (0, 0)) 6 (List.Mem.head _) rfl)) rfl (by kernel_rfl) ?_
              refine xm_gtake 12 (m' := 8191) rfl (by kernel_rfl) Sb.refl rfl rfl (rd_fieldAddr rfl) rfl (by kernel_rfl) ?_
              refine xm_gtake 13 (m' := 16383) rfl (by kernel_rfl) Sb.refl rfl rfl (rd_fieldAddr rfl) rfl (by kernel_rfl) ?_
              refine xm_gtake 14 (m' := 32767) rfl (by kernel_rfl) Sb.refl rfl rfl (rd_fieldAddr rfl) rfl (by kernel_rfl) ?_
              refine xm_gtake 15 (m' := 65535) rfl (by kernel_rfl) Sb.refl rfl rfl (rd_load1 rfl (Cl.o0 rfl)) rfl (by kernel_rfl) ?_
              refine xm_gtake 16 (m' := 131071) rfl (by kernel_rfl) Sb.refl rfl rfl (rd_cast (v' := .agg (specV y.i.f.k).toArray) (rd_build (T := 86) rfl rfl rfl) (by kernel_rfl)) rfl (by kernel_rfl) ?_
              refine xm_gtake 17 (m' := 262143) rfl (by kernel_rfl) Sb.refl rfl rfl (rd_fieldAddr rfl) rfl (by kernel_rfl) ?_
              refine xm_gtake 18 (m' := 524287) rfl (by kernel_rfl) Sb.refl rfl rfl (rd_fieldAddr rfl) rfl (by kernel_rfl) ?_
              refine xm_gtake 19 (m' := 1048575) rfl (by kernel_rfl) Sb.refl rfl rfl (rd_fieldAddr rfl) rfl (by kernel_rfl) ?_
              refine xm_gtake 20 (m' := 2097151) rfl (by kernel_rfl) Sb.refl rfl rfl (rd_fieldAddr rfl) rfl (by kernel_rfl) ?_
              refine xm_gtake 21 (m' := 4194303) rfl (by kernel_rfl) Sb.refl rfl rfl (rd_load1 rfl (Cl.o0 rfl)) rfl (by kernel_rfl) ?_
              refine xm_gtake 22 (m' := 8388607) rfl (by kernel_rfl) Sb.refl rfl rfl (rd_convn rfl (by omega) (by omega)) rfl (by kernel_rfl) ?_
              refine xm_gone 23 (m' := 16777215) rfl (by kernel_rfl) rfl rfl rfl (by kernel_rfl) (ef_call rfl (XF.mono (hmd _) ?_))
              rintro v L' ⟨y2, rfl, hy2a, hy2o, rfl⟩
              refine xmx_perm (perm_k8 y2.bl (y.i.f.bl) l M) ?_
              refine ⟨(by first | exact Sb.refl | exact Sb.nil | (repeat (first | exact Sb.nil | exact Sb.refl | exact Sb.app0 | apply Sb.keep | apply Sb.keepApp | apply Sb.cons | apply Sb.app))), ?_⟩
              refine xm_gone 24 (m' := 33554431) rfl (by kernel_rfl) rfl rfl rfl (by kernel_rfl) (ef_call rfl (XF.mono (xf_FSame y.i.f y2 (hyo.at0.mono (by intro z hz; simp [hz])) (hy2o.at0.mono (by intro z hz; simp [hz])) hyf true (decide_eq_true (hyF.trans hy2a.symm))) ?_))
              rintro v L' ⟨rfl, rfl⟩
              refine ⟨(by first | exact Sb.refl | exact Sb.nil | (repeat (first | exact Sb.nil | exact Sb.refl | exact Sb.app0 | apply Sb.keep | apply Sb.keepApp | apply Sb.cons | apply Sb.app))), ?_⟩
              refine xm_gtake 25 (m' := 67108863) rfl (by kernel_rfl) (by first | exact Sb.refl | exact Sb.nil | (repeat (first | exact Sb.nil | exact Sb.refl | exact Sb.app0 | apply Sb.keep | apply Sb.keepApp | apply Sb.cons | apply Sb.app))) rfl rfl (rd_not rfl) rfl (by kernel_rfl) ?_
              refine xm_take 26 (m' := 134217727) rfl (by kernel_rfl) (by first | exact Sb.refl | exact Sb.nil | (repeat (first | exact Sb.nil | exact Sb.refl | exact Sb.app0 | apply Sb.keep | apply Sb.keepApp | apply Sb.cons | apply Sb.app))) (rd_pickf rfl rfl) rfl (by kernel_rfl) ?_
              refine xm_done (by kernel_rfl) ?_
              refine xq_seq ?_
              refine xc_condf rfl ?_
              refine xc_skip ?_
              refine xq_seq ?_
              refine xc_region ?_
              refine xo_rd (rd_fieldAddr rfl) rfl ?_
              refine xo_rd (rd_fieldAddr rfl) rfl ?_
              refine xo_rd (rd_fieldAddr rfl) rfl ?_
              refine xo_rd (rd_fieldAddr rfl) rfl ?_
              refine xo_rd (rd_load1 rfl (Cl.o0 rfl)) rfl ?_
              refine xo_rd (rd_convn rfl (by omega) (by omega)) rfl ?_
              refine xo_rd (rd_assign rfl) rfl ?_
              refine xo_nil ?_
            exact xq_sub (sub_k8 y.i.f.bl y2.bl l M) (xq_joined (KpS.mk (i + 1) false es p2 c2 l M y.i.f.i.pic came (gone + 1) ev) hJ rfl (by repeat (first | exact keep_nil | refine keep_cons rfl ?_)))
          · have hlo : y.i.lo = true := by simpa using hz1
            rw [show y.a.lo = true from hlo, if_pos rfl, if_pos rfl] at hJ
            exact xq_sub (sub_k7 y.i.f.bl l M) (xq_joined (KpS.mk (i + 1) false es p2 c2 l M last came gone ev) hJ rfl (by repeat (first | exact keep_nil | refine keep_cons rfl ?_)))
      clear hokk hq hstl hkp hlt hfr hhd hsum hci hlen
      rintro ⟨i', bg, es, p1, c1, l, M, last, came, gone, ev⟩ ⟨hi', hok⟩
      dsimp only at hi'
      subst hi'
      have hokk := hok
      obtain ⟨hq, hstl, hkp, hlt, hfr, hhd, hsum, hci, hlen⟩ := hok
      dsimp only at hq hstl hkp hlt hfr hhd hsum hci hlen
      rw [kpL_mk]
      dsimp only
      have hqr : ∀ L' : List Blk, (∀ z, z ∈ ((r, Obj.cells (qcl B ca bg p1 es.length c1).toArray 108 (0, 0)) :: l : List Blk) → z ∈ L') → QR W L' (Qs.mk r B ca bg es p1 c1 l) := fun L' h => hq.qr h
      have hAll : ∀ L' : List Blk, (∀ z, z ∈ ((r, Obj.cells (qcl B ca bg p1 es.length c1).toArray 108 (0, 0)) :: l : List Blk) → z ∈ L') → (∀ z, z ∈ M → z ∈ L') → XF Try.prog W 29 #[.pointer (some ⟨r, 0, none⟩)] L' (fun v L'' => ∃ ys q k lw, v = .slice q ys.length k ∧ ys.map En.a = es.map En.a ∧ (∀ y, y ∈ ys → y.i.f.Ok 116) ∧ SlQ 17 45 (.slice q ys.length k) ys.length (ys.flatMap En.enc) lw ∧ L'' = lw ++ (ebl ys ++ L')) := fun L' h h2 => xf_All (W := W) (L := L') (Qs.mk r B ca bg es p1 c1 l) (hqr L' h) (fun e he => (hq.at' e he).mono h2) hq.few hq.len
      focus
        refine xc_seq ?_
        refine xc_region ?_
        refine xo_rd (rd_move rfl) rfl ?_
        refine xo_ef rfl (ef_call rfl (XF.mono (hAll _ (mem_h _ _) (by intro z hz; simp [hz])) ?_))
        rintro v L' ⟨ys, q, k, lw, rfl, hya, hyo, hyq, rfl⟩
        refine xo_perm (perm_k1 lw (ebl ys) l M) ?_
        refine xo_rd (rd_assign rfl) rfl ?_
        refine xo_nil ?_
        refine xq_seq ?_
        refine xc_seq ?_
        refine xc_region ?_
        refine xo_rd (rd_move rfl) rfl ?_
        refine xo_rd (rd_assign rfl) rfl ?_
        refine xo_nil ?_
        refine xq_seq ?_
        refine xc_seq ?_
        refine xc_seq ?_
        refine xc_region ?_
        refine xo_rd (rd_assign rfl) rfl ?_
        refine xo_nil ?_
        refine xq_seq ?_
        refine xc_block ?_
      have hyl : ys.length = es.length := by have := congrArg List.length hya; rwa [List.length_map, List.length_map] at this
      have hes : es.length ≤ 1000000 := hq.len
      have hR := hyq.rs (W := W) (L := (r, Obj.cells (qcl B ca bg p1 es.length c1).toArray 108 (0, 0)) :: (l ++ (lw ++ (ebl ys ++ M)))) (by intro z hz; simp [hz])
      obtain ⟨F, hF⟩ : ∃ F, framesA (es.map En.a) = F := ⟨_, rfl⟩
      have hfrm : ∀ L' : List Blk, (∀ z, z ∈ ((r, Obj.cells (qcl B ca bg p1 es.length c1).toArray 108 (0, 0)) :: l : List Blk) → z ∈ L') → XF Try.prog W 25 #[.pointer (some ⟨r, 0, none⟩)] L' (fun v L'' => v = .int .i64 (F : Int) ∧ L'' = L') := fun L' h => by
        have h2 := xf_Frames (W := W) (L := L') (Qs.mk r B ca bg es p1 c1 l) (hqr L' h) hq.len
        rw [show (Qs.mk r B ca bg es p1 c1 l).a = es.map En.a from rfl, hF] at h2
        exact h2
      rw [hF] at hfr hsum
      have hFl : F ≤ es.length := by
        have := framesA_le (es.map En.a); rw [List.length_map, hF] at this; exact this
      rw [← hya] at hkp hstl
      refine xc_loopK (ι := AtS) (fun s => s.n ≤ ys.length ∧ ∀ a, a ∈ fs ((ys.map En.a).drop s.n) → s.t < a.f.i.pic) (fun s => ys.length - s.n) (fun s => [(0, .int .i64 B), (1, .bool ca), (2, .slice (some ⟨b2, o2, none⟩) n c), (7, .pointer (some ⟨r, 0, none⟩)), (9, .int .i64 came), (10, .int .i64 gone), (11, .int .i64 ev), (12, .int .i64 last), (13, .int .i64 i), (23, .slice q ys.length k), (24, .int .i64 s.t), (25, .int .i64 s.n)]) ⟨0, last⟩ ⟨Nat.zero_le _, fun a ha => (hkp.md a ha).1⟩ (by repeat (first | exact keep_nil | refine keep_cons rfl ?_)) ?_
      rintro ⟨j, t⟩ ⟨hj, hat⟩
      dsimp only at hj hat ⊢
      by_cases hjn : j < ys.length
      · obtain ⟨b3, o3, hp3, hcl3⟩ := hR.rows En.len (by decide) (by omega)
        subst hp3
        have hc3 := hcl3 j hjn
        have e1 : (ys.map En.a)[j]? = some (ys[j]).a := by rw [List.getElem?_map, List.getElem?_eq_getElem hjn]; rfl
        have hnx := kp_next hkp e1 hat
        obtain ⟨y, hy⟩ : ∃ y, ys[j] = y := ⟨_, rfl⟩
        rw [hy] at hc3 e1 hnx
        have hlo := hc3 2 _ rfl
        have hg := hc3 0 _ rfl
        have hs := hc3 1 _ rfl
        have hpc := hc3 9 _ rfl
        cases hyl : y.i.lo with
        | true =>
          rw [show y.a.lo = true from hyl, if_pos rfl] at hnx
          rw [hyl] at hlo
          cases j with
          | zero =>
            focus
              refine xc_seq ?_
              refine xc_seq ?_
              refine xc_region ?_
              refine xo_rd (rd_move rfl) rfl ?_
              refine xo_rd (rd_move rfl) rfl ?_
              refine xo_rd (rd_len rfl) rfl ?_
              refine xo_rd (rd_lss rfl rfl) rfl ?_
              refine xo_nil ?_
              refine xq_seq ?_
              refine xc_dec rfl (fun hz1 => ?_) (fun hz1 => (by exfalso; omega))
              refine xc_skip ?_
              refine xq_seq ?_
              refine xc_seq ?_
              refine xc_block ?_
              refine xc_seq ?_
              refine xc_seq ?_
              refine xc_drawML [0, 1, 2, 4, 4, 28, 36, 68, 132, 260, 516, 1024, 1024, 5120, 11264, 17408, 33792, 66560, 132096, 263168, 524288, 524288, 3670016, 4718592, 8912896, 524288, 524288, 67633152, 168296448, 268959744, 537395200, 1091043328, 2148007936, 4295491584, 8589934592, 8589934592, 60129542144, 77309411328, 146028888064, 8589934592, 8589934592, 1108101562368, 2757369004032, 4406636445696, 8804682956800, 17875653885952, 35192962023424] [0, 1, 2, 4, 4, 28, 36, 68, 132, 260, 516, 1024, 1024, 5120, 11264, 17408, 33792, 66560, 132096, 263168, 524288, 524288, 3670016, 4718592, 8912896, 524288, 524288, 67633152, 168296448, 268959744, 537395200, 1091043328, 2148007936, 4295491584, 8589934592, 8589934592, 60129542144, 77309411328, 146028888064, 8589934592, 8589934592, 1108101562368, 2757369004032, 4406636445696, 8804682956800, 17875653885952, 35192962023424] (by kernel_rfl) (by kernel_rfl) (by kernel_rfl) ?_
              refine xm_take 0 (m' := 1) rfl (by kernel_rfl) Sb.refl (rd_move rfl) rfl (by kernel_rfl) ?_
              refine xm_take 1 (m' := 3) rfl (by kernel_rfl) Sb.refl (rd_gtr rfl rfl) rfl (by kernel_rfl) ?_
              refine xm_take 2 (m' := 7) rfl (by kernel_rfl) Sb.refl (rd_move rfl) rfl (by kernel_rfl) ?_
              refine xm_gskip 3 (m' := 15) rfl (by kernel_rfl) Sb.refl rfl rfl rfl rfl (by kernel_rfl) ?_
              refine xm_gskip 4 (m' := 31) rfl (by kernel_rfl) Sb.refl rfl rfl rfl rfl (by kernel_rfl) ?_
              refine xm_gskip 5 (m' := 63) rfl (by kernel_rfl) Sb.refl rfl rfl rfl rfl (by kernel_rfl) ?_
              refine xm_gskip 6 (m' := 127) rfl (by kernel_rfl) Sb.refl rfl rfl rfl rfl (by kernel_rfl) ?_
              refine xm_gskip 7 (m' := 255) rfl (by kernel_rfl) Sb.refl rfl rfl rfl rfl (by kernel_rfl) ?_
              refine xm_gskip 8 (m' := 511) rfl (by kernel_rfl) Sb.refl rfl rfl rfl rfl (by kernel_rfl) ?_
              refine xm_take 9 (m' := 1023) rfl (by kernel_rfl) Sb.refl (rd_pickf rfl rfl) rfl (by kernel_rfl) ?_
              refine xm_take 10 (m' := 2047) rfl (by kernel_rfl) Sb.refl (rd_move rfl) rfl (by kernel_rfl) ?_
              refine xm_gskip 11 (m' := 4095) rfl (by kernel_rfl) Sb.refl rfl rfl rfl rfl (by kernel_rfl) ?_
              refine xm_gskip 12 (m' := 8191) rfl (by kernel_rfl) Sb.refl rfl rfl rfl rfl (by kernel_rfl) ?_
              refine xm_gskip 13 (m' := 16383) rfl (by kernel_rfl) Sb.refl rfl rfl rfl rfl (by kernel_rfl) ?_
              refine xm_gskip 14 (m' := 32767) rfl (by kernel_rfl) Sb.refl rfl rfl rfl rfl (by kernel_rfl) ?_
              refine xm_gskip 15 (m' := 65535) rfl (by kernel_rfl) Sb.refl rfl rfl rfl rfl (by kernel_rfl) ?_
              refine xm_gskip 16 (m' := 131071) rfl (by kernel_rfl) Sb.refl rfl rfl rfl rfl (by kernel_rfl) ?_
              refine xm_gskip 17 (m' := 262143) rfl (by kernel_rfl) Sb.refl rfl rfl rfl rfl (by kernel_rfl) ?_
              refine xm_take 18 (m' := 524287) rfl (by kernel_rfl) Sb.refl (rd_pickf rfl rfl) rfl (by kernel_rfl) ?_
              refine xm_take 19 (m' := 1048575) rfl (by kernel_rfl) Sb.refl (rd_move rfl) rfl (by kernel_rfl) ?_
              refine xm_gskip 20 (m' := 2097151) rfl (by kernel_rfl) Sb.refl rfl rfl rfl rfl (by kernel_rfl) ?_
              refine xm_gskip 21 (m' := 4194303) rfl (by kernel_rfl) Sb.refl rfl rfl rfl rfl (by kernel_rfl) ?_
              refine xm_gskip 22 (m' := 8388607) rfl (by kernel_rfl) Sb.refl rfl rfl rfl rfl (by kernel_rfl) ?_
              refine xm_gskip 23 (m' := 16777215) rfl (by kernel_rfl) Sb.refl rfl rfl rfl rfl (by kernel_rfl) ?_
              refine xm_gskip 24 (m' := 33554431) rfl (by kernel_rfl) Sb.refl rfl rfl rfl rfl (by kernel_rfl) ?_
              refine xm_gskip 25 (m' := 67108863) rfl (by kernel_rfl) Sb.refl rfl rfl rfl rfl (by kernel_rfl) ?_
              refine xm_gskip 26 (m' := 134217727) rfl (by kernel_rfl) Sb.refl rfl rfl rfl rfl (by kernel_rfl) ?_
              refine xm_gskip 27 (m' := 268435455) rfl (by kernel_rfl) Sb.refl rfl rfl rfl rfl (by kernel_rfl) ?_
              refine xm_gskip 28 (m' := 536870911) rfl (by kernel_rfl) Sb.refl rfl rfl rfl rfl (by kernel_rfl) ?_
              refine xm_gskip 29 (m' := 1073741823) rfl (by kernel_rfl) Sb.refl rfl rfl rfl rfl (by kernel_rfl) ?_
              refine xm_gskip 30 (m' := 2147483647) rfl (by kernel_rfl) Sb.refl rfl rfl rfl rfl (by kernel_rfl) ?_
              refine xm_gskip 31 (m' := 4294967295) rfl (by kernel_rfl) Sb.refl rfl rfl rfl rfl (by kernel_rfl) ?_
              refine xm_take 32 (m' := 8589934591) rfl (by kernel_rfl) Sb.refl (rd_pickf rfl rfl) rfl (by kernel_rfl) ?_
              refine xm_take 33 (m' := 17179869183) rfl (by kernel_rfl) Sb.refl (rd_move rfl) rfl (by kernel_rfl) ?_
              refine xm_gskip 34 (m' := 34359738367) rfl (by kernel_rfl) Sb.refl rfl rfl rfl rfl (by kernel_rfl) ?_
              refine xm_gskip 35 (m' := 68719476735) rfl (by kernel_rfl) Sb.refl rfl rfl rfl rfl (by kernel_rfl) ?_
              refine xm_gskip 36 (m' := 137438953471) rfl (by kernel_rfl) Sb.refl rfl rfl rfl rfl (by kernel_rfl) ?_
              refine xm_gskip 37 (m' := 274877906943) rfl (by kernel_rfl) Sb.refl rfl rfl rfl rfl (by kernel_rfl) ?_
              refine xm_gskip 38 (m' := 549755813887) rfl (by kernel_rfl) Sb.refl rfl rfl rfl rfl (by kernel_rfl) ?_
              refine xm_gskip 39 (m' := 1099511627775) rfl (by kernel_rfl) Sb.refl rfl rfl rfl rfl (by kernel_rfl) ?_
              refine xm_gskip 40 (m' := 2199023255551) rfl (by kernel_rfl) Sb.refl rfl rfl rfl rfl (by kernel_rfl) ?_
              refine xm_gskip 41 (m' := 4398046511103) rfl (by kernel_rfl) Sb.refl rfl rfl rfl rfl (by kernel_rfl) ?_
              refine xm_gskip 42 (m' := 8796093022207) rfl (by kernel_rfl) Sb.refl rfl rfl rfl rfl (by kernel_rfl) ?_
              refine xm_gskip 43 (m' := 17592186044415) rfl (by kernel_rfl) Sb.refl rfl rfl rfl rfl (by kernel_rfl) ?_
              refine xm_gskip 44 (m' := 35184372088831) rfl (by kernel_rfl) Sb.refl rfl rfl rfl rfl (by kernel_rfl) ?_
              refine xm_gskip 45 (m' := 70368744177663) rfl (by kernel_rfl) Sb.refl rfl rfl rfl rfl (by kernel_rfl) ?_
              refine xm_take 46 (m' := 140737488355327) rfl (by kernel_rfl) Sb.refl (rd_pickf rfl rfl) rfl (by kernel_rfl) ?_
              refine xm_done (by kernel_rfl) ?_
              refine xq_seq ?_
              refine xc_condf rfl ?_
              refine xc_skip ?_
              refine xq_seq ?_
              refine xc_seq ?_
              refine xc_region ?_
              refine xo_rd (rd_move rfl) rfl ?_
              refine xo_rd (rd_move rfl) rfl ?_
              refine xo_rd (rd_indexAddr rfl rfl (by omega) (by omega)) rfl ?_
              refine xo_rd (rd_fieldAddr rfl) rfl ?_
              refine xo_rd (rd_fieldAddr rfl) rfl ?_
              refine xo_rd (rd_load1 rfl hlo) rfl ?_
              refine xo_rd (rd_not rfl) rfl ?_
              refine xo_nil ?_
              refine xq_seq ?_
              refine xc_condf rfl ?_
              refine xc_skip ?_
              refine xq_block ?_
              refine xq_seq ?_
              refine xc_region ?_
              refine xo_rd (rd_move rfl) rfl ?_
              refine xo_rd (rd_addn rfl rfl (by omega) (by omega)) rfl ?_
              refine xo_rd (rd_assign rfl) rfl ?_
              refine xo_nil ?_
            exact xq_roundK rfl (⟨0 + 1, t⟩ : AtS) ⟨hjn, hnx.1⟩ (by dsimp only; omega) (List.Sublist.refl _) (by repeat (first | exact keep_nil | refine keep_cons rfl ?_))
          | succ m =>
            have hc4 := hcl3 m (by omega)
            have e2 : (ys.map En.a)[m]? = some (ys[m]).a := by rw [List.getElem?_map, List.getElem?_eq_getElem (by omega)]; rfl
            have hjo := stl_get hstl m _ _ e2 e1
            obtain ⟨z, hzz⟩ : ∃ z, ys[m] = z := ⟨_, rfl⟩
            rw [hzz] at hc4 e2 hjo
            have hlo2 := hc4 2 _ rfl
            have hg2 := hc4 0 _ rfl
            have hs2 := hc4 1 _ rfl
            focus
              refine xc_seq ?_
              refine xc_seq ?_
              refine xc_region ?_
              refine xo_rd (rd_move rfl) rfl ?_
              refine xo_rd (rd_move rfl) rfl ?_
              refine xo_rd (rd_len rfl) rfl ?_
              refine xo_rd (rd_lss rfl rfl) rfl ?_
              refine xo_nil ?_
              refine xq_seq ?_
              refine xc_dec rfl (fun hz1 => ?_) (fun hz1 => (by exfalso; omega))
              refine xc_skip ?_
              refine xq_seq ?_
              refine xc_seq ?_
              refine xc_block ?_
              refine xc_seq ?_
              refine xc_seq ?_
              refine xc_drawML [0, 1, 2, 4, 4, 28, 36, 68, 132, 260, 516, 1024, 1024, 5120, 11264, 17408, 33792, 66560, 132096, 263168, 524288, 524288, 3670016, 4718592, 8912896, 524288, 524288, 67633152, 168296448, 268959744, 537395200, 1091043328, 2148007936, 4295491584, 8589934592, 8589934592, 60129542144, 77309411328, 146028888064, 8589934592, 8589934592, 1108101562368, 2757369004032, 4406636445696, 8804682956800, 17875653885952, 35192962023424] [0, 1, 2, 4, 4, 28, 36, 68, 132, 260, 516, 1024, 1024, 5120, 11264, 17408, 33792, 66560, 132096, 263168, 524288, 524288, 3670016, 4718592, 8912896, 524288, 524288, 67633152, 168296448, 268959744, 537395200, 1091043328, 2148007936, 4295491584, 8589934592, 8589934592, 60129542144, 77309411328, 146028888064, 8589934592, 8589934592, 1108101562368, 2757369004032, 4406636445696, 8804682956800, 17875653885952, 35192962023424] (by kernel_rfl) (by kernel_rfl) (by kernel_rfl) ?_
              refine xm_take 0 (m' := 1) rfl (by kernel_rfl) Sb.refl (rd_move rfl) rfl (by kernel_rfl) ?_
              refine xm_take 1 (m' := 3) rfl (by kernel_rfl) Sb.refl (rd_gtr rfl rfl) rfl (by kernel_rfl) ?_
              refine xm_take 2 (m' := 7) rfl (by kernel_rfl) Sb.refl (rd_move rfl) rfl (by kernel_rfl) ?_
              refine xm_dec 204 rfl (fun hz2 => ?_) (fun hz2 => (by exfalso; omega))
              refine xm_gtake 3 (m' := 15) rfl (by kernel_rfl) Sb.refl rfl rfl (rd_move rfl) rfl (by kernel_rfl) ?_
              refine xm_gtake 4 (m' := 31) rfl (by kernel_rfl) Sb.refl rfl rfl (rd_move rfl) rfl (by kernel_rfl) ?_
              refine xm_gtake 5 (m' := 63) rfl (by kernel_rfl) Sb.refl rfl rfl (rd_indexAddr rfl rfl (by omega) (by omega)) rfl (by kernel_rfl) ?_
              refine xm_gtake 6 (m' := 127) rfl (by kernel_rfl) Sb.refl rfl rfl (rd_fieldAddr rfl) rfl (by kernel_rfl) ?_
              refine xm_gtake 7 (m' := 255) rfl (by kernel_rfl) Sb.refl rfl rfl (rd_fieldAddr rfl) rfl (by kernel_rfl) ?_
              refine xm_gtake 8 (m' := 511) rfl (by kernel_rfl) Sb.refl rfl rfl (rd_load1 rfl hlo) rfl (by kernel_rfl) ?_
              refine xm_take 9 (m' := 1023) rfl (by kernel_rfl) Sb.refl (rd_pickt rfl rfl) rfl (by kernel_rfl) ?_
              refine xm_take 10 (m' := 2047) rfl (by kernel_rfl) Sb.refl (rd_move rfl) rfl (by kernel_rfl) ?_
              refine xm_gtake 11 (m' := 4095) rfl (by kernel_rfl) Sb.refl rfl rfl (rd_move rfl) rfl (by kernel_rfl) ?_
              refine xm_gtake 12 (m' := 8191) rfl (by kernel_rfl) Sb.refl rfl rfl (rd_move rfl) rfl (by kernel_rfl) ?_
              refine xm_gtake 13 (m' := 16383) rfl (by kernel_rfl) Sb.refl rfl rfl (rd_cast (v' := .int .i64 (m : Int)) (rd_subn rfl rfl (by show _ ≤ ((m + 1 : Nat) : Int) - 1; omega) (by show ((m + 1 : Nat) : Int) - 1 ≤ _; omega)) (congrArg (Value.int .i64) (by show ((m + 1 : Nat) : Int) - 1 = m; omega))) rfl (by kernel_rfl) ?_
              refine xm_gtake 14 (m' := 32767) rfl (by kernel_rfl) Sb.refl rfl rfl (rd_indexAddr rfl rfl (by omega) (by omega)) rfl (by kernel_rfl) ?_
              refine xm_gtake 15 (m' := 65535) rfl (by kernel_rfl) Sb.refl rfl rfl (rd_fieldAddr rfl) rfl (by kernel_rfl) ?_
              refine xm_gtake 16 (m' := 131071) rfl (by kernel_rfl) Sb.refl rfl rfl (rd_fieldAddr rfl) rfl (by kernel_rfl) ?_
              refine xm_gtake 17 (m' := 262143) rfl (by kernel_rfl) Sb.refl rfl rfl (rd_load1 rfl hlo2) rfl (by kernel_rfl) ?_
              refine xm_take 18 (m' := 524287) rfl (by kernel_rfl) Sb.refl (rd_pickt rfl rfl) rfl (by kernel_rfl) ?_
              refine xm_take 19 (m' := 1048575) rfl (by kernel_rfl) Sb.refl (rd_move rfl) rfl (by kernel_rfl) ?_
              refine xm_split 221 rfl (fun hz3 => ?_) (fun hz3 => ?_)
              refine xm_gtake 20 (m' := 2097151) rfl (by kernel_rfl) Sb.refl rfl rfl (rd_move rfl) rfl (by kernel_rfl) ?_
              refine xm_gtake 21 (m' := 4194303) rfl (by kernel_rfl) Sb.refl rfl rfl (rd_move rfl) rfl (by kernel_rfl) ?_
              refine xm_gtake 22 (m' := 8388607) rfl (by kernel_rfl) Sb.refl rfl rfl (rd_indexAddr rfl rfl (by omega) (by omega)) rfl (by kernel_rfl) ?_
              refine xm_gtake 23 (m' := 16777215) rfl (by kernel_rfl) Sb.refl rfl rfl (rd_fieldAddr rfl) rfl (by kernel_rfl) ?_
              refine xm_gtake 24 (m' := 33554431) rfl (by kernel_rfl) Sb.refl rfl rfl (rd_load1 rfl hg) rfl (by kernel_rfl) ?_
              refine xm_gtake 25 (m' := 67108863) rfl (by kernel_rfl) Sb.refl rfl rfl (rd_move rfl) rfl (by kernel_rfl) ?_
              refine xm_gtake 26 (m' := 134217727) rfl (by kernel_rfl) Sb.refl rfl rfl (rd_move rfl) rfl (by kernel_rfl) ?_
              refine xm_gtake 27 (m' := 268435455) rfl (by kernel_rfl) Sb.refl rfl rfl (rd_cast (v' := .int .i64 (m : Int)) (rd_subn rfl rfl (by show _ ≤ ((m + 1 : Nat) : Int) - 1; omega) (by show ((m + 1 : Nat) : Int) - 1 ≤ _; omega)) (congrArg (Value.int .i64) (by show ((m + 1 : Nat) : Int) - 1 = m; omega))) rfl (by kernel_rfl) ?_
              refine xm_gtake 28 (m' := 536870911) rfl (by kernel_rfl) Sb.refl rfl rfl (rd_indexAddr rfl rfl (by omega) (by omega)) rfl (by kernel_rfl) ?_
              refine xm_gtake 29 (m' := 1073741823) rfl (by kernel_rfl) Sb.refl rfl rfl (rd_fieldAddr rfl) rfl (by kernel_rfl) ?_
              refine xm_gtake 30 (m' := 2147483647) rfl (by kernel_rfl) Sb.refl rfl rfl (rd_load1 rfl hg2) rfl (by kernel_rfl) ?_
              refine xm_gtake 31 (m' := 4294967295) rfl (by kernel_rfl) Sb.refl rfl rfl (rd_eql rfl rfl) rfl (by kernel_rfl) ?_
              refine xm_take 32 (m' := 8589934591) rfl (by kernel_rfl) Sb.refl (rd_pickt rfl rfl) rfl (by kernel_rfl) ?_
              refine xm_take 33 (m' := 17179869183) rfl (by kernel_rfl) Sb.refl (rd_move rfl) rfl (by kernel_rfl) ?_
              refine xm_dec 235 rfl (fun hz4 => ?_) (fun hz4 => ?_)
              refine xm_gtake 34 (m' := 34359738367) rfl (by kernel_rfl) Sb.refl rfl rfl (rd_move rfl) rfl (by kernel_rfl) ?_
              refine xm_gtake 35 (m' := 68719476735) rfl (by kernel_rfl) Sb.refl rfl rfl (rd_move rfl) rfl (by kernel_rfl) ?_
              refine xm_gtake 36 (m' := 137438953471) rfl (by kernel_rfl) Sb.refl rfl rfl (rd_indexAddr rfl rfl (by omega) (by omega)) rfl (by kernel_rfl) ?_
              refine xm_gtake 37 (m' := 274877906943) rfl (by kernel_rfl) Sb.refl rfl rfl (rd_fieldAddr rfl) rfl (by kernel_rfl) ?_
              refine xm_gtake 38 (m' := 549755813887) rfl (by kernel_rfl) Sb.refl rfl rfl (rd_load1 rfl hs) rfl (by kernel_rfl) ?_
              refine xm_gtake 39 (m' := 1099511627775) rfl (by kernel_rfl) Sb.refl rfl rfl (rd_move rfl) rfl (by kernel_rfl) ?_
              refine xm_gtake 40 (m' := 2199023255551) rfl (by kernel_rfl) Sb.refl rfl rfl (rd_move rfl) rfl (by kernel_rfl) ?_
              refine xm_gtake 41 (m' := 4398046511103) rfl (by kernel_rfl) Sb.refl rfl rfl (rd_cast (v' := .int .i64 (m : Int)) (rd_subn rfl rfl (by show _ ≤ ((m + 1 : Nat) : Int) - 1; omega) (by show ((m + 1 : Nat) : Int) - 1 ≤ _; omega)) (congrArg (Value.int .i64) (by show ((m + 1 : Nat) : Int) - 1 = m; omega))) rfl (by kernel_rfl) ?_
              refine xm_gtake 42 (m' := 8796093022207) rfl (by kernel_rfl) Sb.refl rfl rfl (rd_indexAddr rfl rfl (by omega) (by omega)) rfl (by kernel_rfl) ?_
              refine xm_gtake 43 (m' := 17592186044415) rfl (by kernel_rfl) Sb.refl rfl rfl (rd_fieldAddr rfl) rfl (by kernel_rfl) ?_
              refine xm_gtake 44 (m' := 35184372088831) rfl (by kernel_rfl) Sb.refl rfl rfl (rd_load1 rfl hs2) rfl (by kernel_rfl) ?_
              refine xm_gtake 45 (m' := 70368744177663) rfl (by kernel_rfl) Sb.refl rfl rfl (rd_eql rfl rfl) rfl (by kernel_rfl) ?_
              refine xm_take 46 (m' := 140737488355327) rfl (by kernel_rfl) Sb.refl (rd_pickt rfl rfl) rfl (by kernel_rfl) ?_
              refine xm_done (by kernel_rfl) ?_
              refine xq_seq ?_
              refine xc_dec rfl (fun hz5 => ?_) (fun hz5 => ?_)
              refine xc_seq ?_
              refine xc_region ?_
              refine xo_rd (rd_assign rfl) rfl ?_
              refine xo_nil ?_
              refine xq_seq ?_
              refine xc_ret ?_
              refine xq_then_ret ?_
              refine xq_block_ret ?_
              refine xq_then_ret ?_
              refine xq_then_ret ?_
              refine xq_block_ret ?_
              refine xq_then_ret ?_
              refine xq_block_ret ?_
              refine xq_then_ret ?_
              refine xq_then_ret ?_
              refine xq_block_ret ?_
              refine xq_then_ret ?_
              rotate_left
              refine xc_skip ?_
              refine xq_seq ?_
              refine xc_seq ?_
              refine xc_region ?_
              refine xo_rd (rd_move rfl) rfl ?_
              refine xo_rd (rd_move rfl) rfl ?_
              refine xo_rd (rd_indexAddr rfl rfl (by omega) (by omega)) rfl ?_
              refine xo_rd (rd_fieldAddr rfl) rfl ?_
              refine xo_rd (rd_fieldAddr rfl) rfl ?_
              refine xo_rd (rd_load1 rfl hlo) rfl ?_
              refine xo_rd (rd_not rfl) rfl ?_
              refine xo_nil ?_
              refine xq_seq ?_
              refine xc_condf rfl ?_
              refine xc_skip ?_
              refine xq_block ?_
              refine xq_seq ?_
              refine xc_region ?_
              refine xo_rd (rd_move rfl) rfl ?_
              refine xo_rd (rd_addn rfl rfl (by omega) (by omega)) rfl ?_
              refine xo_rd (rd_assign rfl) rfl ?_
              refine xo_nil ?_
              rotate_left
              refine xm_gskip 34 (m' := 34359738367) rfl (by kernel_rfl) Sb.refl rfl rfl rfl rfl (by kernel_rfl) ?_
              refine xm_gskip 35 (m' := 68719476735) rfl (by kernel_rfl) Sb.refl rfl rfl rfl rfl (by kernel_rfl) ?_
              refine xm_gskip 36 (m' := 137438953471) rfl (by kernel_rfl) Sb.refl rfl rfl rfl rfl (by kernel_rfl) ?_
              refine xm_gskip 37 (m' := 274877906943) rfl (by kernel_rfl) Sb.refl rfl rfl rfl rfl (by kernel_rfl) ?_
              refine xm_gskip 38 (m' := 549755813887) rfl (by kernel_rfl) Sb.refl rfl rfl rfl rfl (by kernel_rfl) ?_
              refine xm_gskip 39 (m' := 1099511627775) rfl (by kernel_rfl) Sb.refl rfl rfl rfl rfl (by kernel_rfl) ?_
              refine xm_gskip 40 (m' := 2199023255551) rfl (by kernel_rfl) Sb.refl rfl rfl rfl rfl (by kernel_rfl) ?_
              refine xm_gskip 41 (m' := 4398046511103) rfl (by kernel_rfl) Sb.refl rfl rfl rfl rfl (by kernel_rfl) ?_
              refine xm_gskip 42 (m' := 8796093022207) rfl (by kernel_rfl) Sb.refl rfl rfl rfl rfl (by kernel_rfl) ?_
              refine xm_gskip 43 (m' := 17592186044415) rfl (by kernel_rfl) Sb.refl rfl rfl rfl rfl (by kernel_rfl) ?_
              refine xm_gskip 44 (m' := 35184372088831) rfl (by kernel_rfl) Sb.refl rfl rfl rfl rfl (by kernel_rfl) ?_
              refine xm_gskip 45 (m' := 70368744177663) rfl (by kernel_rfl) Sb.refl rfl rfl rfl rfl (by kernel_rfl) ?_
              refine xm_take 46 (m' := 140737488355327) rfl (by kernel_rfl) Sb.refl (rd_pickf rfl rfl) rfl (by kernel_rfl) ?_
              refine xm_done (by kernel_rfl) ?_
              refine xq_seq ?_
              refine xc_condf rfl ?_
              refine xc_skip ?_
              refine xq_seq ?_
              refine xc_seq ?_
              refine xc_region ?_
              refine xo_rd (rd_move rfl) rfl ?_
              refine xo_rd (rd_move rfl) rfl ?_
              refine xo_rd (rd_indexAddr rfl rfl (by omega) (by omega)) rfl ?_
              refine xo_rd (rd_fieldAddr rfl) rfl ?_
              refine xo_rd (rd_fieldAddr rfl) rfl ?_
              refine xo_rd (rd_load1 rfl hlo) rfl ?_
              refine xo_rd (rd_not rfl) rfl ?_
              refine xo_nil ?_
              refine xq_seq ?_
              refine xc_condf rfl ?_
              refine xc_skip ?_
              refine xq_block ?_
              refine xq_seq ?_
              refine xc_region ?_
              refine xo_rd (rd_move rfl) rfl ?_
              refine xo_rd (rd_addn rfl rfl (by omega) (by omega)) rfl ?_
              refine xo_rd (rd_assign rfl) rfl ?_
              refine xo_nil ?_
              rotate_left
              refine xm_gskip 20 (m' := 2097151) rfl (by kernel_rfl) Sb.refl rfl rfl rfl rfl (by kernel_rfl) ?_
              refine xm_gskip 21 (m' := 4194303) rfl (by kernel_rfl) Sb.refl rfl rfl rfl rfl (by kernel_rfl) ?_
              refine xm_gskip 22 (m' := 8388607) rfl (by kernel_rfl) Sb.refl rfl rfl rfl rfl (by kernel_rfl) ?_
              refine xm_gskip 23 (m' := 16777215) rfl (by kernel_rfl) Sb.refl rfl rfl rfl rfl (by kernel_rfl) ?_
              refine xm_gskip 24 (m' := 33554431) rfl (by kernel_rfl) Sb.refl rfl rfl rfl rfl (by kernel_rfl) ?_
              refine xm_gskip 25 (m' := 67108863) rfl (by kernel_rfl) Sb.refl rfl rfl rfl rfl (by kernel_rfl) ?_
              refine xm_gskip 26 (m' := 134217727) rfl (by kernel_rfl) Sb.refl rfl rfl rfl rfl (by kernel_rfl) ?_
              refine xm_gskip 27 (m' := 268435455) rfl (by kernel_rfl) Sb.refl rfl rfl rfl rfl (by kernel_rfl) ?_
              refine xm_gskip 28 (m' := 536870911) rfl (by kernel_rfl) Sb.refl rfl rfl rfl rfl (by kernel_rfl) ?_
              refine xm_gskip 29 (m' := 1073741823) rfl (by kernel_rfl) Sb.refl rfl rfl rfl rfl (by kernel_rfl) ?_
              refine xm_gskip 30 (m' := 2147483647) rfl (by kernel_rfl) Sb.refl rfl rfl rfl rfl (by kernel_rfl) ?_
              refine xm_gskip 31 (m' := 4294967295) rfl (by kernel_rfl) Sb.refl rfl rfl rfl rfl (by kernel_rfl) ?_
              refine xm_take 32 (m' := 8589934591) rfl (by kernel_rfl) Sb.refl (rd_pickf rfl rfl) rfl (by kernel_rfl) ?_
              refine xm_take 33 (m' := 17179869183) rfl (by kernel_rfl) Sb.refl (rd_move rfl) rfl (by kernel_rfl) ?_
              refine xm_gskip 34 (m' := 34359738367) rfl (by kernel_rfl) Sb.refl rfl rfl rfl rfl (by kernel_rfl) ?_
              refine xm_gskip 35 (m' := 68719476735) rfl (by kernel_rfl) Sb.refl rfl rfl rfl rfl (by kernel_rfl) ?_
              refine xm_gskip 36 (m' := 137438953471) rfl (by kernel_rfl) Sb.refl rfl rfl rfl rfl (by kernel_rfl) ?_
              refine xm_gskip 37 (m' := 274877906943) rfl (by kernel_rfl) Sb.refl rfl rfl rfl rfl (by kernel_rfl) ?_
              refine xm_gskip 38 (m' := 549755813887) rfl (by kernel_rfl) Sb.refl rfl rfl rfl rfl (by kernel_rfl) ?_
              refine xm_gskip 39 (m' := 1099511627775) rfl (by kernel_rfl) Sb.refl rfl rfl rfl rfl (by kernel_rfl) ?_
              refine xm_gskip 40 (m' := 2199023255551) rfl (by kernel_rfl) Sb.refl rfl rfl rfl rfl (by kernel_rfl) ?_
              refine xm_gskip 41 (m' := 4398046511103) rfl (by kernel_rfl) Sb.refl rfl rfl rfl rfl (by kernel_rfl) ?_
              refine xm_gskip 42 (m' := 8796093022207) rfl (by kernel_rfl) Sb.refl rfl rfl rfl rfl (by kernel_rfl) ?_
              refine xm_gskip 43 (m' := 17592186044415) rfl (by kernel_rfl) Sb.refl rfl rfl rfl rfl (by kernel_rfl) ?_
              refine xm_gskip 44 (m' := 35184372088831) rfl (by kernel_rfl) Sb.refl rfl rfl rfl rfl (by kernel_rfl) ?_
              refine xm_gskip 45 (m' := 70368744177663) rfl (by kernel_rfl) Sb.refl rfl rfl rfl rfl (by kernel_rfl) ?_
              refine xm_take 46 (m' := 140737488355327) rfl (by kernel_rfl) Sb.refl (rd_pickf rfl rfl) rfl (by kernel_rfl) ?_
              refine xm_done (by kernel_rfl) ?_
              refine xq_seq ?_
              refine xc_condf rfl ?_
              refine xc_skip ?_
              refine xq_seq ?_
              refine xc_seq ?_
              refine xc_region ?_
              refine xo_rd (rd_move rfl) rfl ?_
              refine xo_rd (rd_move rfl) rfl ?_
              refine xo_rd (rd_indexAddr rfl rfl (by omega) (by omega)) rfl ?_
              refine xo_rd (rd_fieldAddr rfl) rfl ?_
              refine xo_rd (rd_fieldAddr rfl) rfl ?_
              refine xo_rd (rd_load1 rfl hlo) rfl ?_
              refine xo_rd (rd_not rfl) rfl ?_
              refine xo_nil ?_
              refine xq_seq ?_
              refine xc_condf rfl ?_
              refine xc_skip ?_
              refine xq_block ?_
              refine xq_seq ?_
              refine xc_region ?_
              refine xo_rd (rd_move rfl) rfl ?_
              refine xo_rd (rd_addn rfl rfl (by omega) (by omega)) rfl ?_
              refine xo_rd (rd_assign rfl) rfl ?_
              refine xo_nil ?_
              rotate_left
            · exfalso
              have h : z.a.joins y.a = true := joins_iff.2 ⟨hz3, hyl, hz4.symm, hz5.symm⟩
              rw [hjo] at h
              cases h
            all_goals exact xq_roundK rfl (⟨m + 1 + 1, t⟩ : AtS) ⟨hjn, hnx.1⟩ (by dsimp only; omega) (List.Sublist.refl _) (by repeat (first | exact keep_nil | refine keep_cons rfl ?_))
        | false =>
          rw [show y.a.lo = false from hyl, if_neg (by decide), show y.a.f.i.pic = y.i.f.i.pic from rfl] at hnx
          rw [hyl] at hlo
          have hp0 : 0 ≤ y.i.f.i.pic ∧ y.i.f.i.pic < 32768 := by
            have hm := (hkp.md y.a (mem_fs.2 ⟨List.mem_of_getElem? e1, hyl⟩)).2.2
            have h : y.i.f.i.pic = y.i.f.i.pic % 32768 := congrArg (fun f : Fa => f.i.pic) hm
            omega
          have hnx2 : t < y.i.f.i.pic := hnx.2 rfl
          focus
            refine xc_seq ?_
            refine xc_seq ?_
            refine xc_region ?_
            refine xo_rd (rd_move rfl) rfl ?_
            refine xo_rd (rd_move rfl) rfl ?_
            refine xo_rd (rd_len rfl) rfl ?_
            refine xo_rd (rd_lss rfl rfl) rfl ?_
            refine xo_nil ?_
            refine xq_seq ?_
            refine xc_dec rfl (fun hz1 => ?_) (fun hz1 => (by exfalso; omega))
            refine xc_skip ?_
            refine xq_seq ?_
            refine xc_seq ?_
            refine xc_block ?_
            refine xc_seq ?_
            refine xc_seq ?_
            refine xc_drawML [0, 1, 2, 4, 4, 28, 36, 68, 132, 260, 516, 1024, 1024, 5120, 11264, 17408, 33792, 66560, 132096, 263168, 524288, 524288, 3670016, 4718592, 8912896, 524288, 524288, 67633152, 168296448, 268959744, 537395200, 1091043328, 2148007936, 4295491584, 8589934592, 8589934592, 60129542144, 77309411328, 146028888064, 8589934592, 8589934592, 1108101562368, 2757369004032, 4406636445696, 8804682956800, 17875653885952, 35192962023424] [0, 1, 2, 4, 4, 28, 36, 68, 132, 260, 516, 1024, 1024, 5120, 11264, 17408, 33792, 66560, 132096, 263168, 524288, 524288, 3670016, 4718592, 8912896, 524288, 524288, 67633152, 168296448, 268959744, 537395200, 1091043328, 2148007936, 4295491584, 8589934592, 8589934592, 60129542144, 77309411328, 146028888064, 8589934592, 8589934592, 1108101562368, 2757369004032, 4406636445696, 8804682956800, 17875653885952, 35192962023424] (by kernel_rfl) (by kernel_rfl) (by kernel_rfl) ?_
            refine xm_take 0 (m' := 1) rfl (by kernel_rfl) Sb.refl (rd_move rfl) rfl (by kernel_rfl) ?_
            refine xm_take 1 (m' := 3) rfl (by kernel_rfl) Sb.refl (rd_gtr rfl rfl) rfl (by kernel_rfl) ?_
            refine xm_take 2 (m' := 7) rfl (by kernel_rfl) Sb.refl (rd_move rfl) rfl (by kernel_rfl) ?_
            refine xm_dec 204 rfl (fun hz2 => ?_) (fun hz2 => ?_)
            refine xm_gtake 3 (m' := 15) rfl (by kernel_rfl) Sb.refl rfl rfl (rd_move rfl) rfl (by kernel_rfl) ?_
            refine xm_gtake 4 (m' := 31) rfl (by kernel_rfl) Sb.refl rfl rfl (rd_move rfl) rfl (by kernel_rfl) ?_
            refine xm_gtake 5 (m' := 63) rfl (by kernel_rfl) Sb.refl rfl rfl (rd_indexAddr rfl rfl (by omega) (by omega)) rfl (by kernel_rfl) ?_
            refine xm_gtake 6 (m' := 127) rfl (by kernel_rfl) Sb.refl rfl rfl (rd_fieldAddr rfl) rfl (by kernel_rfl) ?_
            refine xm_gtake 7 (m' := 255) rfl (by kernel_rfl) Sb.refl rfl rfl (rd_fieldAddr rfl) rfl (by kernel_rfl) ?_
            refine xm_gtake 8 (m' := 511) rfl (by kernel_rfl) Sb.refl rfl rfl (rd_load1 rfl hlo) rfl (by kernel_rfl) ?_
            refine xm_take 9 (m' := 1023) rfl (by kernel_rfl) Sb.refl (rd_pickt rfl rfl) rfl (by kernel_rfl) ?_
            refine xm_take 10 (m' := 2047) rfl (by kernel_rfl) Sb.refl (rd_move rfl) rfl (by kernel_rfl) ?_
            refine xm_gskip 11 (m' := 4095) rfl (by kernel_rfl) Sb.refl rfl rfl rfl rfl (by kernel_rfl) ?_
            refine xm_gskip 12 (m' := 8191) rfl (by kernel_rfl) Sb.refl rfl rfl rfl rfl (by kernel_rfl) ?_
            refine xm_gskip 13 (m' := 16383) rfl (by kernel_rfl) Sb.refl rfl rfl rfl rfl (by kernel_rfl) ?_
            refine xm_gskip 14 (m' := 32767) rfl (by kernel_rfl) Sb.refl rfl rfl rfl rfl (by kernel_rfl) ?_
            refine xm_gskip 15 (m' := 65535) rfl (by kernel_rfl) Sb.refl rfl rfl rfl rfl (by kernel_rfl) ?_
            refine xm_gskip 16 (m' := 131071) rfl (by kernel_rfl) Sb.refl rfl rfl rfl rfl (by kernel_rfl) ?_
            refine xm_gskip 17 (m' := 262143) rfl (by kernel_rfl) Sb.refl rfl rfl rfl rfl (by kernel_rfl) ?_
            refine xm_take 18 (m' := 524287) rfl (by kernel_rfl) Sb.refl (rd_pickf rfl rfl) rfl (by kernel_rfl) ?_
            refine xm_take 19 (m' := 1048575) rfl (by kernel_rfl) Sb.refl (rd_move rfl) rfl (by kernel_rfl) ?_
            refine xm_gskip 20 (m' := 2097151) rfl (by kernel_rfl) Sb.refl rfl rfl rfl rfl (by kernel_rfl) ?_
            refine xm_gskip 21 (m' := 4194303) rfl (by kernel_rfl) Sb.refl rfl rfl rfl rfl (by kernel_rfl) ?_
            refine xm_gskip 22 (m' := 8388607) rfl (by kernel_rfl) Sb.refl rfl rfl rfl rfl (by kernel_rfl) ?_
            refine xm_gskip 23 (m' := 16777215) rfl (by kernel_rfl) Sb.refl rfl rfl rfl rfl (by kernel_rfl) ?_
            refine xm_gskip 24 (m' := 33554431) rfl (by kernel_rfl) Sb.refl rfl rfl rfl rfl (by kernel_rfl) ?_
            refine xm_gskip 25 (m' := 67108863) rfl (by kernel_rfl) Sb.refl rfl rfl rfl rfl (by kernel_rfl) ?_
            refine xm_gskip 26 (m' := 134217727) rfl (by kernel_rfl) Sb.refl rfl rfl rfl rfl (by kernel_rfl) ?_
            refine xm_gskip 27 (m' := 268435455) rfl (by kernel_rfl) Sb.refl rfl rfl rfl rfl (by kernel_rfl) ?_
            refine xm_gskip 28 (m' := 536870911) rfl (by kernel_rfl) Sb.refl rfl rfl rfl rfl (by kernel_rfl) ?_
            refine xm_gskip 29 (m' := 1073741823) rfl (by kernel_rfl) Sb.refl rfl rfl rfl rfl (by kernel_rfl) ?_
            refine xm_gskip 30 (m' := 2147483647) rfl (by kernel_rfl) Sb.refl rfl rfl rfl rfl (by kernel_rfl) ?_
            refine xm_gskip 31 (m' := 4294967295) rfl (by kernel_rfl) Sb.refl rfl rfl rfl rfl (by kernel_rfl) ?_
            refine xm_take 32 (m' := 8589934591) rfl (by kernel_rfl) Sb.refl (rd_pickf rfl rfl) rfl (by kernel_rfl) ?_
            refine xm_take 33 (m' := 17179869183) rfl (by kernel_rfl) Sb.refl (rd_move rfl) rfl (by kernel_rfl) ?_
            refine xm_gskip 34 (m' := 34359738367) rfl (by kernel_rfl) Sb.refl rfl rfl rfl rfl (by kernel_rfl) ?_
            refine xm_gskip 35 (m' := 68719476735) rfl (by kernel_rfl) Sb.refl rfl rfl rfl rfl (by kernel_rfl) ?_
            refine xm_gskip 36 (m' := 137438953471) rfl (by kernel_rfl) Sb.refl rfl rfl rfl rfl (by kernel_rfl) ?_
            refine xm_gskip 37 (m' := 274877906943) rfl (by kernel_rfl) Sb.refl rfl rfl rfl rfl (by kernel_rfl) ?_
            refine xm_gskip 38 (m' := 549755813887) rfl (by kernel_rfl) Sb.refl rfl rfl rfl rfl (by kernel_rfl) ?_
            refine xm_gskip 39 (m' := 1099511627775) rfl (by kernel_rfl) Sb.refl rfl rfl rfl rfl (by kernel_rfl) ?_
            refine xm_gskip 40 (m' := 2199023255551) rfl (by kernel_rfl) Sb.refl rfl rfl rfl rfl (by kernel_rfl) ?_
            refine xm_gskip 41 (m' := 4398046511103) rfl (by kernel_rfl) Sb.refl rfl rfl rfl rfl (by kernel_rfl) ?_
            refine xm_gskip 42 (m' := 8796093022207) rfl (by kernel_rfl) Sb.refl rfl rfl rfl rfl (by kernel_rfl) ?_
            refine xm_gskip 43 (m' := 17592186044415) rfl (by kernel_rfl) Sb.refl rfl rfl rfl rfl (by kernel_rfl) ?_
            refine xm_gskip 44 (m' := 35184372088831) rfl (by kernel_rfl) Sb.refl rfl rfl rfl rfl (by kernel_rfl) ?_
            refine xm_gskip 45 (m' := 70368744177663) rfl (by kernel_rfl) Sb.refl rfl rfl rfl rfl (by kernel_rfl) ?_
            refine xm_take 46 (m' := 140737488355327) rfl (by kernel_rfl) Sb.refl (rd_pickf rfl rfl) rfl (by kernel_rfl) ?_
            refine xm_done (by kernel_rfl) ?_
            refine xq_seq ?_
            refine xc_condf rfl ?_
            refine xc_skip ?_
            refine xq_seq ?_
            refine xc_seq ?_
            refine xc_region ?_
            refine xo_rd (rd_move rfl) rfl ?_
            refine xo_rd (rd_move rfl) rfl ?_
            refine xo_rd (rd_indexAddr rfl rfl (by omega) (by omega)) rfl ?_
            refine xo_rd (rd_fieldAddr rfl) rfl ?_
            refine xo_rd (rd_fieldAddr rfl) rfl ?_
            refine xo_rd (rd_load1 rfl hlo) rfl ?_
            refine xo_rd (rd_not rfl) rfl ?_
            refine xo_nil ?_
            refine xq_seq ?_
            refine xc_condt rfl ?_
            refine xc_seq ?_
            refine xc_seq ?_
            refine xc_region ?_
            refine xo_rd (rd_move rfl) rfl ?_
            refine xo_rd (rd_move rfl) rfl ?_
            refine xo_rd (rd_indexAddr rfl rfl (by omega) (by omega)) rfl ?_
            refine xo_rd (rd_fieldAddr rfl) rfl ?_
            refine xo_rd (rd_fieldAddr rfl) rfl ?_
            refine xo_rd (rd_fieldAddr rfl) rfl ?_
            refine xo_rd (rd_fieldAddr rfl) rfl ?_
            refine xo_rd (rd_load1 rfl hpc) rfl ?_
            refine xo_rd (rd_convn rfl (by omega) (by omega)) rfl ?_
            refine xo_rd (rd_move rfl) rfl ?_
            refine xo_rd (rd_leq rfl rfl) rfl ?_
            refine xo_nil ?_
            refine xq_seq ?_
            refine xc_dec rfl (fun hz3 => (by exfalso; omega)) (fun hz3 => ?_)
            refine xc_skip ?_
            refine xq_seq ?_
            refine xc_region ?_
            refine xo_rd (rd_move rfl) rfl ?_
            refine xo_rd (rd_move rfl) rfl ?_
            refine xo_rd (rd_indexAddr rfl rfl (by omega) (by omega)) rfl ?_
            refine xo_rd (rd_fieldAddr rfl) rfl ?_
            refine xo_rd (rd_fieldAddr rfl) rfl ?_
            refine xo_rd (rd_fieldAddr rfl) rfl ?_
            refine xo_rd (rd_fieldAddr rfl) rfl ?_
            refine xo_rd (rd_load1 rfl hpc) rfl ?_
            refine xo_rd (rd_convn rfl (by omega) (by omega)) rfl ?_
            refine xo_rd (rd_assign rfl) rfl ?_
            refine xo_nil ?_
            refine xq_block ?_
            refine xq_seq ?_
            refine xc_region ?_
            refine xo_rd (rd_move rfl) rfl ?_
            refine xo_rd (rd_addn rfl rfl (by omega) (by omega)) rfl ?_
            refine xo_rd (rd_assign rfl) rfl ?_
            refine xo_nil ?_
            rotate_left
            refine xm_gskip 3 (m' := 15) rfl (by kernel_rfl) Sb.refl rfl rfl rfl rfl (by kernel_rfl) ?_
            refine xm_gskip 4 (m' := 31) rfl (by kernel_rfl) Sb.refl rfl rfl rfl rfl (by kernel_rfl) ?_
            refine xm_gskip 5 (m' := 63) rfl (by kernel_rfl) Sb.refl rfl rfl rfl rfl (by kernel_rfl) ?_
            refine xm_gskip 6 (m' := 127) rfl (by kernel_rfl) Sb.refl rfl rfl rfl rfl (by kernel_rfl) ?_
            refine xm_gskip 7 (m' := 255) rfl (by kernel_rfl) Sb.refl rfl rfl rfl rfl (by kernel_rfl) ?_
            refine xm_gskip 8 (m' := 511) rfl (by kernel_rfl) Sb.refl rfl rfl rfl rfl (by kernel_rfl) ?_
            refine xm_take 9 (m' := 1023) rfl (by kernel_rfl) Sb.refl (rd_pickf rfl rfl) rfl (by kernel_rfl) ?_
            refine xm_take 10 (m' := 2047) rfl (by kernel_rfl) Sb.refl (rd_move rfl) rfl (by kernel_rfl) ?_
            refine xm_gskip 11 (m' := 4095) rfl (by kernel_rfl) Sb.refl rfl rfl rfl rfl (by kernel_rfl) ?_
            refine xm_gskip 12 (m' := 8191) rfl (by kernel_rfl) Sb.refl rfl rfl rfl rfl (by kernel_rfl) ?_
            refine xm_gskip 13 (m' := 16383) rfl (by kernel_rfl) Sb.refl rfl rfl rfl rfl (by kernel_rfl) ?_
            refine xm_gskip 14 (m' := 32767) rfl (by kernel_rfl) Sb.refl rfl rfl rfl rfl (by kernel_rfl) ?_
            refine xm_gskip 15 (m' := 65535) rfl (by kernel_rfl) Sb.refl rfl rfl rfl rfl (by kernel_rfl) ?_
            refine xm_gskip 16 (m' := 131071) rfl (by kernel_rfl) Sb.refl rfl rfl rfl rfl (by kernel_rfl) ?_
            refine xm_gskip 17 (m' := 262143) rfl (by kernel_rfl) Sb.refl rfl rfl rfl rfl (by kernel_rfl) ?_
            refine xm_take 18 (m' := 524287) rfl (by kernel_rfl) Sb.refl (rd_pickf rfl rfl) rfl (by kernel_rfl) ?_
            refine xm_take 19 (m' := 1048575) rfl (by kernel_rfl) Sb.refl (rd_move rfl) rfl (by kernel_rfl) ?_
            refine xm_gskip 20 (m' := 2097151) rfl (by kernel_rfl) Sb.refl rfl rfl rfl rfl (by kernel_rfl) ?_
            refine xm_gskip 21 (m' := 4194303) rfl (by kernel_rfl) Sb.refl rfl rfl rfl rfl (by kernel_rfl) ?_
            refine xm_gskip 22 (m' := 8388607) rfl (by kernel_rfl) Sb.refl rfl rfl rfl rfl (by kernel_rfl) ?_
            refine xm_gskip 23 (m' := 16777215) rfl (by kernel_rfl) Sb.refl rfl rfl rfl rfl (by kernel_rfl) ?_
            refine xm_gskip 24 (m' := 33554431) rfl (by kernel_rfl) Sb.refl rfl rfl rfl rfl (by kernel_rfl) ?_
            refine xm_gskip 25 (m' := 67108863) rfl (by kernel_rfl) Sb.refl rfl rfl rfl rfl (by kernel_rfl) ?_
            refine xm_gskip 26 (m' := 134217727) rfl (by kernel_rfl) Sb.refl rfl rfl rfl rfl (by kernel_rfl) ?_
            refine xm_gskip 27 (m' := 268435455) rfl (by kernel_rfl) Sb.refl rfl rfl rfl rfl (by kernel_rfl) ?_
            refine xm_gskip 28 (m' := 536870911) rfl (by kernel_rfl) Sb.refl rfl rfl rfl rfl (by kernel_rfl) ?_
            refine xm_gskip 29 (m' := 1073741823) rfl (by kernel_rfl) Sb.refl rfl rfl rfl rfl (by kernel_rfl) ?_
            refine xm_gskip 30 (m' := 2147483647) rfl (by kernel_rfl) Sb.refl rfl rfl rfl rfl (by kernel_rfl) ?_
            refine xm_gskip 31 (m' := 4294967295) rfl (by kernel_rfl) Sb.refl rfl rfl rfl rfl (by kernel_rfl) ?_
            refine xm_take 32 (m' := 8589934591) rfl (by kernel_rfl) Sb.refl (rd_pickf rfl rfl) rfl (by kernel_rfl) ?_
            refine xm_take 33 (m' := 17179869183) rfl (by kernel_rfl) Sb.refl (rd_move rfl) rfl (by kernel_rfl) ?_
            refine xm_gskip 34 (m' := 34359738367) rfl (by kernel_rfl) Sb.refl rfl rfl rfl rfl (by kernel_rfl) ?_
            refine xm_gskip 35 (m' := 68719476735) rfl (by kernel_rfl) Sb.refl rfl rfl rfl rfl (by kernel_rfl) ?_
            refine xm_gskip 36 (m' := 137438953471) rfl (by kernel_rfl) Sb.refl rfl rfl rfl rfl (by kernel_rfl) ?_
            refine xm_gskip 37 (m' := 274877906943) rfl (by kernel_rfl) Sb.refl rfl rfl rfl rfl (by kernel_rfl) ?_
            refine xm_gskip 38 (m' := 549755813887) rfl (by kernel_rfl) Sb.refl rfl rfl rfl rfl (by kernel_rfl) ?_
            refine xm_gskip 39 (m' := 1099511627775) rfl (by kernel_rfl) Sb.refl rfl rfl rfl rfl (by kernel_rfl) ?_
            refine xm_gskip 40 (m' := 2199023255551) rfl (by kernel_rfl) Sb.refl rfl rfl rfl rfl (by kernel_rfl) ?_
            refine xm_gskip 41 (m' := 4398046511103) rfl (by kernel_rfl) Sb.refl rfl rfl rfl rfl (by kernel_rfl) ?_
            refine xm_gskip 42 (m' := 8796093022207) rfl (by kernel_rfl) Sb.refl rfl rfl rfl rfl (by kernel_rfl) ?_
            refine xm_gskip 43 (m' := 17592186044415) rfl (by kernel_rfl) Sb.refl rfl rfl rfl rfl (by kernel_rfl) ?_
            refine xm_gskip 44 (m' := 35184372088831) rfl (by kernel_rfl) Sb.refl rfl rfl rfl rfl (by kernel_rfl) ?_
            refine xm_gskip 45 (m' := 70368744177663) rfl (by kernel_rfl) Sb.refl rfl rfl rfl rfl (by kernel_rfl) ?_
            refine xm_take 46 (m' := 140737488355327) rfl (by kernel_rfl) Sb.refl (rd_pickf rfl rfl) rfl (by kernel_rfl) ?_
            refine xm_done (by kernel_rfl) ?_
            refine xq_seq ?_
            refine xc_condf rfl ?_
            refine xc_skip ?_
            refine xq_seq ?_
            refine xc_seq ?_
            refine xc_region ?_
            refine xo_rd (rd_move rfl) rfl ?_
            refine xo_rd (rd_move rfl) rfl ?_
            refine xo_rd (rd_indexAddr rfl rfl (by omega) (by omega)) rfl ?_
            refine xo_rd (rd_fieldAddr rfl) rfl ?_
            refine xo_rd (rd_fieldAddr rfl) rfl ?_
            refine xo_rd (rd_load1 rfl hlo) rfl ?_
            refine xo_rd (rd_not rfl) rfl ?_
            refine xo_nil ?_
            refine xq_seq ?_
            refine xc_condt rfl ?_
            refine xc_seq ?_
            refine xc_seq ?_
            refine xc_region ?_
            refine xo_rd (rd_move rfl) rfl ?_
            refine xo_rd (rd_move rfl) rfl ?_
            refine xo_rd (rd_indexAddr rfl rfl (by omega) (by omega)) rfl ?_
            refine xo_rd (rd_fieldAddr rfl) rfl ?_
            refine xo_rd (rd_fieldAddr rfl) rfl ?_
            refine xo_rd (rd_fieldAddr rfl) rfl ?_
            refine xo_rd (rd_fieldAddr rfl) rfl ?_
            refine xo_rd (rd_load1 rfl hpc) rfl ?_
            refine xo_rd (rd_convn rfl (by omega) (by omega)) rfl ?_
            refine xo_rd (rd_move rfl) rfl ?_
            refine xo_rd (rd_leq rfl rfl) rfl ?_
            refine xo_nil ?_
            refine xq_seq ?_
            refine xc_dec rfl (fun hz4 => (by exfalso; omega)) (fun hz4 => ?_)
            refine xc_skip ?_
            refine xq_seq ?_
            refine xc_region ?_
            refine xo_rd (rd_move rfl) rfl ?_
            refine xo_rd (rd_move rfl) rfl ?_
            refine xo_rd (rd_indexAddr rfl rfl (by omega) (by omega)) rfl ?_
            refine xo_rd (rd_fieldAddr rfl) rfl ?_
            refine xo_rd (rd_fieldAddr rfl) rfl ?_
            refine xo_rd (rd_fieldAddr rfl) rfl ?_
            refine xo_rd (rd_fieldAddr rfl) rfl ?_
            refine xo_rd (rd_load1 rfl hpc) rfl ?_
            refine xo_rd (rd_convn rfl (by omega) (by omega)) rfl ?_
            refine xo_rd (rd_assign rfl) rfl ?_
            refine xo_nil ?_
            refine xq_block ?_
            refine xq_seq ?_
            refine xc_region ?_
            refine xo_rd (rd_move rfl) rfl ?_
            refine xo_rd (rd_addn rfl rfl (by omega) (by omega)) rfl ?_
            refine xo_rd (rd_assign rfl) rfl ?_
            refine xo_nil ?_
            rotate_left
          all_goals exact xq_roundK rfl (⟨j + 1, y.i.f.i.pic⟩ : AtS) ⟨hjn, hnx.1⟩ (by dsimp only; omega) (List.Sublist.refl _) (by repeat (first | exact keep_nil | refine keep_cons rfl ?_))
      · skip
        focus
          refine xc_seq ?_
          refine xc_seq ?_
          refine xc_region ?_
          refine xo_rd (rd_move rfl) rfl ?_
          refine xo_rd (rd_move rfl) rfl ?_
          refine xo_rd (rd_len rfl) rfl ?_
          refine xo_rd (rd_lss rfl rfl) rfl ?_
          refine xo_nil ?_
          refine xq_seq ?_
          refine xc_dec rfl (fun h1 => (by exfalso; omega)) (fun h1 => ?_)
          refine xc_exit ?_
          refine xq_then_exit ?_
          refine xq_then_exit ?_
          refine xq_block_hit ?_
          refine xq_seq ?_
          refine xc_seq ?_
          refine xc_region ?_
          refine xo_rd (rd_move rfl) rfl ?_
          refine xo_ef rfl (ef_call rfl (XF.mono (hfrm _ (mem_h _ _)) ?_))
          rintro v L' ⟨rfl, rfl⟩
          refine xo_rd (rd_move rfl) rfl ?_
          refine xo_rd (rd_addn rfl rfl (by omega) (by omega)) rfl ?_
          refine xo_rd (rd_gtr rfl rfl) rfl ?_
          refine xo_rd (rd_move rfl) rfl ?_
          refine xo_dec 281 rfl (fun h2 => (by exfalso; omega)) (fun h2 => ?_)
          refine xo_grd rfl rfl (rd_move rfl) rfl ?_
          refine xo_grd rfl rfl (rd_move rfl) rfl ?_
          refine xo_grd rfl rfl (rd_move rfl) rfl ?_
          refine xo_grd rfl rfl (rd_addn rfl rfl (by omega) (by omega)) rfl ?_
          refine xo_grd rfl rfl (rd_move rfl) rfl ?_
          refine xo_gef rfl rfl rfl (ef_call rfl (XF.mono (hfrm _ (mem_h _ _)) ?_))
          rintro v L' ⟨rfl, rfl⟩
          refine xo_grd rfl rfl (rd_addn rfl rfl (by omega) (by omega)) rfl ?_
          refine xo_grd rfl rfl (rd_neq rfl rfl) rfl ?_
          refine xo_rd (rd_pickf rfl rfl) rfl ?_
          refine xo_nil ?_
          refine xq_seq ?_
          refine xc_ndec rfl (fun h3 => (by exfalso; omega)) (fun h3 => ?_)
          refine xc_skip ?_
          refine xq_block ?_
          refine xq_seq ?_
          refine xc_region ?_
          refine xo_rd (rd_move rfl) rfl ?_
          refine xo_rd (rd_addn rfl rfl (by omega) (by omega)) rfl ?_
          refine xo_rd (rd_assign rfl) rfl ?_
          refine xo_nil ?_
        exact xq_sub (sub_k9 lw (ebl ys) l M) (xq_roundI (⟨i + 1, bg, es, p1, c1, l, M, last, came, gone, ev⟩ : KpS) ⟨by dsimp only; omega, hokk⟩ (by dsimp only; omega) rfl (by repeat (first | exact keep_nil | refine keep_cons rfl ?_)))
  · skip
    focus
      refine xc_seq ?_
      refine xc_seq ?_
      refine xc_region ?_
      refine xo_rd (rd_move rfl) rfl ?_
      refine xo_rd (rd_move rfl) rfl ?_
      refine xo_rd (rd_len rfl) rfl ?_
      refine xo_rd (rd_lss rfl rfl) rfl ?_
      refine xo_nil ?_
      refine xq_seq ?_
      refine xc_dec rfl (fun h1 => (by exfalso; omega)) (fun h1 => ?_)
      refine xc_exit ?_
      refine xq_then_exit ?_
      refine xq_then_exit ?_
      refine xq_block_hit ?_
      refine xq_seq ?_
      refine xc_seq ?_
      refine xc_region ?_
      refine xo_ef rfl (ef_call rfl (XF.mono (xf_works) ?_))
      rintro v L' ⟨rfl, rfl⟩
      refine xo_rd (rd_assign rfl) rfl ?_
      refine xo_nil ?_
      refine xq_seq ?_
      refine xc_ret ?_
    exact xq_ret1 (.inl rfl) Try.results4 rfl rfl
end Go.Proofs.Ytpheiklhjelkcaa.X
