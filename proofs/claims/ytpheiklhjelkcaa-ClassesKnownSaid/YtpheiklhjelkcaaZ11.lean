/-
  Texts of my own, put together: walks and laws for this seat. No condition.
-/
import Derived.Test.YtpheiklhjelkcaaZ8
import Derived.Test.YtpheiklhjelkcaaZ10
/-
  Chapter 19: whatever is called, a queue answers what the document says: a walk of my own.
-/
namespace Go.Proofs.Ytpheiklhjelkcaa.X
open Go Go.RowKit
set_option linter.unusedVariables false
set_option linter.unusedSimpArgs false
/-- The state of Plays. -/
structure PlS where
  i : Nat
  bg : Bool
  es : List En
  p : Option Addr
  c : Nat
  l : List Blk
  res : List En
  rp : Option Addr
  rc : Nat
  M : List Blk
structure PlS.Ok (W : World) (b : Int) (ca : Bool) (r r11 : Nat) (s : PlS) : Prop where
  q : (Qs.mk r b ca s.bg s.es s.p s.c s.l).Ok W s.M
  rs : Rs W s.M s.rp (s.res.flatMap En.enc)
  at' : ∀ e, e ∈ s.res → e.i.f.At W s.M ∧ e.i.f.Few
  same : s.res.map En.a = s.es.map En.a
  stl : Stl (s.es.map En.a)
  cap : s.res.length ≤ s.rc
  len : s.es.length ≤ s.i
theorem PlS.Ok.leq {W : World} {b : Int} {ca : Bool} {r r11 : Nat} {s : PlS} (h : s.Ok W b ca r r11) : s.res.length = s.es.length := by
  have := congrArg List.length h.same
  rwa [List.length_map, List.length_map] at this
theorem xf_PutF {W : World} {M M0 : List Blk} (r : Nat) (most : Int) (ca bg : Bool) (es : List En) (p : Option Addr) (c : Nat) (l : List Blk) (hx : (Qs.mk r most ca bg es p c l).Ok W M0) (pv : Option Addr) (cv : Nat) (x : En) (hv : Rs W M pv ([x].flatMap En.enc)) (hat : x.i.f.At W M) (hf : x.i.f.Few) (hlen : es.length + 2 ≤ 1000000)
    (la lr : List Ea) (xa : Ea) (cnt : Nat) (hla : es.map En.a = la) (hxa : x.a = xa) (hres : putA most ca bg la xa = (lr, cnt)) :
    XF Try.prog W 22 #[.pointer (some ⟨r, 0, none⟩), .slice pv 1 cv] ((r, .cells (qcl most ca bg p es.length c).toArray 108 (0, 0)) :: (l ++ M)) (fun v L' => ∃ es' p c l N, v = .int .i64 cnt ∧ L' = (r, .cells (qcl most ca bg p es'.length c).toArray 108 (0, 0)) :: (l ++ (N ++ M)) ∧ (Qs.mk r most ca bg es' p c l).Ok W (N ++ M0) ∧ es'.map En.a = lr) := by
  subst hla hxa
  have h := xf_Put (W := W) (M := M) (M0 := M0) r most ca bg es p c l hx pv 1 cv [x] hv rfl (fun e he => by rw [List.mem_singleton.1 he]; exact hat) (fun e he => by rw [List.mem_singleton.1 he]; exact hf) (by omega)
  have e1 : putsA most ca bg (es.map En.a) ([x].map En.a) = (lr, cnt) := by
    show ((putA most ca bg (es.map En.a) x.a).1, 0 + (putA most ca bg (es.map En.a) x.a).2) = _
    rw [hres, Nat.zero_add]
  rw [e1] at h
  exact h
theorem xf_Spoil0 {W : World} {L : List Blk} : XF Try.prog W 19 #[.agg zFr.enc.toArray] L (fun v L' => v = .tuple #[] ∧ L' = L) := xf_SpoilFrame (L := L) zFr ⟨SlQ.nil, fun y h => by cases h⟩ zFr_few
theorem perm_s4 {a b c d : Blk} (l R : List Blk) : (a :: b :: c :: d :: (l ++ R)).Perm (c :: (l ++ (a :: b :: d :: R))) := (by classical exact List.perm_iff_count.2 fun a => by simp only [List.append_eq, List.count_append, List.count_cons, List.count_nil, List.cons_append, List.nil_append, List.flatMap_append, List.flatMap_cons, List.flatMap_nil, List.append_nil]; omega)
theorem perm_s4' {a b c d : Blk} (y l R : List Blk) : (y ++ (c :: (l ++ (a :: b :: d :: R)))).Perm (a :: b :: c :: d :: (l ++ (y ++ R))) := (by classical exact List.perm_iff_count.2 fun a => by simp only [List.append_eq, List.count_append, List.count_cons, List.count_nil, List.cons_append, List.nil_append, List.flatMap_append, List.flatMap_cons, List.flatMap_nil, List.append_nil]; omega)
theorem perm_s5 {a b c d e : Blk} (y l R : List Blk) : (a :: b :: c :: d :: e :: (l ++ (y ++ R))).Perm (y ++ (a :: b :: c :: d :: e :: (l ++ R))) := (by classical exact List.perm_iff_count.2 fun a => by simp only [List.append_eq, List.count_append, List.count_cons, List.count_nil, List.cons_append, List.nil_append, List.flatMap_append, List.flatMap_cons, List.flatMap_nil, List.append_nil]; omega)
theorem perm_c3 {a b c : Blk} (y l R : List Blk) : (y ++ (a :: b :: c :: (l ++ R))).Perm (a :: b :: c :: (l ++ (y ++ R))) := (by classical exact List.perm_iff_count.2 fun a => by simp only [List.append_eq, List.count_append, List.count_cons, List.count_nil, List.cons_append, List.nil_append, List.flatMap_append, List.flatMap_cons, List.flatMap_nil, List.append_nil]; omega)
theorem perm_p5 {a b c d e : Blk} (l R : List Blk) : (a :: b :: c :: d :: e :: (l ++ R)).Perm (d :: (l ++ (a :: b :: c :: e :: R))) := (by classical exact List.perm_iff_count.2 fun a => by simp only [List.append_eq, List.count_append, List.count_cons, List.count_nil, List.cons_append, List.nil_append, List.flatMap_append, List.flatMap_cons, List.flatMap_nil, List.append_nil]; omega)
theorem perm_p5' {a b c d e : Blk} (N l R : List Blk) : (d :: (l ++ (N ++ (a :: b :: c :: e :: R)))).Perm (a :: b :: c :: d :: e :: (l ++ (N ++ R))) := (by classical exact List.perm_iff_count.2 fun a => by simp only [List.append_eq, List.count_append, List.count_cons, List.count_nil, List.cons_append, List.nil_append, List.flatMap_append, List.flatMap_cons, List.flatMap_nil, List.append_nil]; omega)
theorem perm_p6 {a b c d e : Blk} (l N2 N z y R : List Blk) : (a :: b :: c :: d :: e :: (l ++ (N2 ++ (N ++ (z ++ (y ++ R)))))).Perm (y ++ (a :: b :: c :: d :: e :: (l ++ (N2 ++ (N ++ (z ++ R)))))) := (by classical exact List.perm_iff_count.2 fun a => by simp only [List.append_eq, List.count_append, List.count_cons, List.count_nil, List.cons_append, List.nil_append, List.flatMap_append, List.flatMap_cons, List.flatMap_nil, List.append_nil]; omega)
theorem Fr.Ok.at0 {W : World} {T : TypeId} {x : Fr} (h : x.Ok T) : x.At W x.bl := by
  have := h.at (W := W) (L := [])
  rwa [List.append_nil] at this
theorem perm_s6 {a b c d e : Blk} (z l y R : List Blk) : (a :: b :: c :: d :: e :: (z ++ (l ++ (y ++ R)))).Perm (y ++ (a :: b :: c :: d :: e :: (z ++ (l ++ R)))) := (by classical exact List.perm_iff_count.2 fun a => by simp only [List.append_eq, List.count_append, List.count_cons, List.count_nil, List.cons_append, List.nil_append, List.flatMap_append, List.flatMap_cons, List.flatMap_nil, List.append_nil]; omega)
theorem sub_s6 {a b c d e : Blk} (z R : List Blk) : (d :: e :: R).Sublist (a :: b :: c :: d :: e :: (z ++ R)) := (List.Sublist.cons_cons _ (List.Sublist.cons_cons _ (List.sublist_append_right z _))).trans (List.sublist_append_right [a, b, c] _)
theorem perm_c4 {a b c d : Blk} (y l R : List Blk) : (y ++ (a :: b :: c :: d :: (l ++ R))).Perm (a :: b :: c :: d :: (l ++ (y ++ R))) := (by classical exact List.perm_iff_count.2 fun a => by simp only [List.append_eq, List.count_append, List.count_cons, List.count_nil, List.cons_append, List.nil_append, List.flatMap_append, List.flatMap_cons, List.flatMap_nil, List.append_nil]; omega)
/-- What the reference's Put told. -/
structure RpS where
  z : En
  es : List En
  p : Option Addr
  c : Nat
  N : List Blk
  r21 : Nat
theorem sub_p7 {a b c d e : Blk} (R : List Blk) : (d :: e :: R).Sublist (a :: b :: c :: d :: e :: R) := List.sublist_append_right [a, b, c] _
theorem mem_n2 (N2 N z M : List Blk) : ∀ q, q ∈ N2 ++ M → q ∈ N2 ++ (N ++ (z ++ M)) := fun q hq => by
  rcases List.mem_append.1 hq with h | h
  · exact List.mem_append_left _ h
  · exact List.mem_append_right _ (List.mem_append_right _ (List.mem_append_right _ h))
theorem perm_f1 {a b : Blk} (y l R : List Blk) : (y ++ (a :: b :: (l ++ R))).Perm (a :: b :: (y ++ (l ++ R))) := (by classical exact List.perm_iff_count.2 fun a => by simp only [List.append_eq, List.count_append, List.count_cons, List.count_nil, List.cons_append, List.nil_append, List.flatMap_append, List.flatMap_cons, List.flatMap_nil, List.append_nil]; omega)
theorem perm_f2 {a b c : Blk} (y R : List Blk) : (a :: b :: c :: (y ++ R)).Perm (y ++ (a :: b :: c :: R)) := (by classical exact List.perm_iff_count.2 fun a => by simp only [List.append_eq, List.count_append, List.count_cons, List.count_nil, List.cons_append, List.nil_append, List.flatMap_append, List.flatMap_cons, List.flatMap_nil, List.append_nil]; omega)
theorem perm_a2 {a b : Blk} (la e R : List Blk) : (la ++ (e ++ (a :: b :: R))).Perm (a :: b :: (la ++ (e ++ R))) := (by classical exact List.perm_iff_count.2 fun a => by simp only [List.append_eq, List.count_append, List.count_cons, List.count_nil, List.cons_append, List.nil_append, List.flatMap_append, List.flatMap_cons, List.flatMap_nil, List.append_nil]; omega)
theorem perm_a3 {a b : Blk} (la y e R : List Blk) : (a :: b :: (la ++ ((y ++ e) ++ R))).Perm (y ++ (a :: b :: (la ++ (e ++ R)))) := (by classical exact List.perm_iff_count.2 fun a => by simp only [List.append_eq, List.count_append, List.count_cons, List.count_nil, List.cons_append, List.nil_append, List.flatMap_append, List.flatMap_cons, List.flatMap_nil, List.append_nil]; omega)
theorem mem_q {a b : Blk} (l M : List Blk) : ∀ z, z ∈ a :: l → z ∈ a :: b :: (l ++ M) := fun z hz => by
  rcases List.mem_cons.1 hz with h | h
  · exact h ▸ List.mem_cons_self
  · exact List.mem_cons_of_mem _ (List.mem_cons_of_mem _ (List.mem_append_left _ h))
theorem mem_m {a b : Blk} (l M : List Blk) : ∀ z, z ∈ M → z ∈ a :: b :: (l ++ M) := fun z hz => List.mem_cons_of_mem _ (List.mem_cons_of_mem _ (List.mem_append_right _ hz))
theorem bnot_self (x : Bool) : (!(x == x)) = false := by cases x <;> rfl
theorem mem_q3 {a b c : Blk} {l : List Blk} (y M : List Blk) : ∀ z, z ∈ a :: l → z ∈ c :: a :: b :: (y ++ (l ++ M)) := fun z hz => by
  rcases List.mem_cons.1 hz with h | h
  · exact h ▸ List.mem_cons_of_mem _ List.mem_cons_self
  · exact List.mem_cons_of_mem _ (List.mem_cons_of_mem _ (List.mem_cons_of_mem _ (List.mem_append_right _ (List.mem_append_left _ h))))
theorem mem_m3 {a b c : Blk} {l : List Blk} (y M : List Blk) : ∀ z, z ∈ M → z ∈ c :: a :: b :: (y ++ (l ++ M)) := fun z hz => List.mem_cons_of_mem _ (List.mem_cons_of_mem _ (List.mem_cons_of_mem _ (List.mem_append_right _ (List.mem_append_right _ hz))))
theorem mem_q4 {a b c : Blk} {l : List Blk} (x y M : List Blk) : ∀ z, z ∈ a :: l → z ∈ c :: a :: b :: (x ++ (y ++ (l ++ M))) := fun z hz => by
  rcases List.mem_cons.1 hz with h | h
  · exact h ▸ List.mem_cons_of_mem _ List.mem_cons_self
  · exact List.mem_cons_of_mem _ (List.mem_cons_of_mem _ (List.mem_cons_of_mem _ (List.mem_append_right _ (List.mem_append_right _ (List.mem_append_left _ h)))))
theorem mem_m4 {a b c : Blk} (x y l M : List Blk) : ∀ z, z ∈ M → z ∈ c :: a :: b :: (x ++ (y ++ (l ++ M))) := fun z hz => List.mem_cons_of_mem _ (List.mem_cons_of_mem _ (List.mem_cons_of_mem _ (List.mem_append_right _ (List.mem_append_right _ (List.mem_append_right _ hz)))))
theorem ebl_cons (l : List En) (j : Nat) (h : j < l.length) : ebl (l.drop j) = (l[j]).i.f.bl ++ ebl (l.drop (j + 1)) := by
  rw [List.drop_eq_getElem_cons h]; rfl
theorem mem_e1 {a b : Blk} (lb e R : List Blk) : ∀ q, q ∈ lb ++ e → q ∈ a :: b :: (lb ++ (e ++ R)) := fun q hq => by
  rw [← List.append_assoc]
  exact List.mem_cons_of_mem _ (List.mem_cons_of_mem _ (List.mem_append_left _ hq))
theorem mem_e2 {a b : Blk} (lb e la e2 l M : List Blk) : ∀ q, q ∈ M → q ∈ a :: b :: (lb ++ (e ++ (la ++ (e2 ++ (l ++ M))))) := fun q hq =>
  List.mem_cons_of_mem _ (List.mem_cons_of_mem _ (List.mem_append_right _ (List.mem_append_right _ (List.mem_append_right _ (List.mem_append_right _ (List.mem_append_right _ hq))))))
theorem en_frm {W : World} {L : List Blk} {x : En} {b o j : Nat} (h : ∀ (k : Nat) (u : Value), x.enc[k]? = some u → Cl W L b (o + j * 17 + k) u) : ∀ (k : Nat) (u : Value), x.i.f.enc[k]? = some u → Cl W L b (o + (j : Int).toNat * 17 + 2 + 4 + k) u := fun k u hk => by
  have h1 : x.enc[6 + k]? = some u := by
    show (([.int .u64 x.g, .int .i64 x.s, .bool x.i.lo, .bool x.i.kn, .int .u8 x.i.ti, .bool x.i.dr] : List Value) ++ x.i.f.enc)[6 + k]? = _
    rw [List.getElem?_append_right (by show (6 : Nat) ≤ 6 + k; omega), ← hk]
    congr 1; show 6 + k - 6 = k; omega
  have := h (6 + k) u h1
  rwa [show o + j * 17 + (6 + k) = o + (j : Int).toNat * 17 + 2 + 4 + k by omega] at this
/-- What First told. -/
structure FiS where
  y : En
  r23 : Nat
def plL (b : Int) (ca : Bool) (r r11 : Nat) (s : PlS) : List Blk := (r, .cells (qcl b ca s.bg s.p s.es.length s.c).toArray 108 (0, 0)) :: ((r11, .cells (qcl b ca s.bg s.rp s.res.length s.rc).toArray 33 (0, 0)) :: (s.l ++ s.M))
theorem plL_mk (b : Int) (ca : Bool) (r r11 i : Nat) (bg : Bool) (es : List En) (p : Option Addr) (c : Nat) (l : List Blk) (res : List En) (rp : Option Addr) (rc : Nat) (M : List Blk) : plL b ca r r11 ⟨i, bg, es, p, c, l, res, rp, rc, M⟩ = (r, .cells (qcl b ca bg p es.length c).toArray 108 (0, 0)) :: ((r11, .cells (qcl b ca bg rp res.length rc).toArray 33 (0, 0)) :: (l ++ M)) := rfl
set_option maxHeartbeats 3200000 in
theorem plays1 {W : World} (b : Int) (ca : Bool) (p : Option Addr) (n c : Nat) (xs : List Ac) (hx : xs.length = n) (hr : AcR W [] p xs) (g : Int) :
    XF Try.prog W 3 #[.int .i64 b, .bool ca, .slice p n c, .int .u64 g] [] (fun v L' => v = .bool true) := by
  refine xf_enter (args := [_, _, _, _]) Try.func3 rfl Try.ntmps3 rfl ?_
  focus
    refine xc_seq ?_
    refine xc_region ?_
    refine xo_rd (rd_assign rfl) rfl ?_
    refine xo_nil ?_
    refine xq_seq ?_
    refine xc_seq ?_
    refine xc_seq ?_
    refine xc_region ?_
    refine xo_rd (rd_move rfl) rfl ?_
    refine xo_ef rfl (ef_call rfl (XF.mono (xf_few p n c xs hx hr 50 (by decide)) ?_))
    rintro v L' ⟨bf, rfl, hbf, rfl⟩
    refine xo_rd (rd_not rfl) rfl ?_
    refine xo_nil ?_
    refine xq_seq ?_
    refine xc_cond rfl (fun hz1 => ?_) (fun hz1 => ?_)
    refine xc_seq ?_
    refine xc_region ?_
    refine xo_ef rfl (ef_call rfl (XF.mono (xf_works) ?_))
    rintro v L' ⟨rfl, rfl⟩
    refine xo_rd (rd_assign rfl) rfl ?_
    refine xo_nil ?_
    refine xq_seq ?_
    refine xc_ret ?_
    refine xq_then_ret ?_
    rotate_left
    refine xc_skip ?_
    refine xq_seq ?_
    rotate_left
  · exact xq_ret1 (.inl rfl) Try.results3 rfl rfl
  have hsm := hbf (by simpa using hz1)
  by_cases hb : 1 ≤ b ∧ b ≤ 256
  case neg =>
    focus
      refine xc_seq ?_
      refine xc_region ?_
      refine xo_rd (rd_move rfl) rfl ?_
      refine xo_rd (rd_move rfl) rfl ?_
      refine xo_ef rfl (ef_call rfl (XF.mono (xf_New0 b ca hb) ?_))
      rintro v L' ⟨rfl, rfl⟩
      refine xo_rd (rd_move rfl) rfl ?_
      refine xo_rd (rd_extract rfl rfl) rfl ?_
      refine xo_rd (rd_extract rfl rfl) rfl ?_
      refine xo_rd (rd_assign rfl) rfl ?_
      refine xo_rd (rd_assign rfl) rfl ?_
      refine xo_nil ?_
      refine xq_seq ?_
      refine xc_seq ?_
      refine xc_seq ?_
      refine xc_region ?_
      refine xo_rd (rd_move rfl) rfl ?_
      refine xo_ef rfl (ef_call rfl (XF.mono (xf_Right b) ?_))
      rintro v L' ⟨rfl, rfl⟩
      refine xo_rd (rd_not rfl) rfl ?_
      refine xo_nil ?_
      refine xq_seq ?_
      refine xc_cond rfl (fun hy1 => ?_) (fun hy1 => ?_)
      refine xc_seq ?_
      refine xc_region ?_
      refine xo_rd (rd_move rfl) rfl ?_
      refine xo_rd (rd_eqnil rfl) rfl ?_
      refine xo_rd (rd_move rfl) rfl ?_
      refine xo_grd rfl rfl (rd_move rfl) rfl ?_
      refine xo_grd rfl rfl (rd_eql rfl rfl) rfl ?_
      refine xo_rd (rd_pickt rfl rfl) rfl ?_
      refine xo_rd (rd_move rfl) rfl ?_
      refine xo_gef rfl rfl rfl (ef_call rfl (XF.mono (xf_works) ?_))
      rintro v L' ⟨rfl, rfl⟩
      refine xo_rd (rd_pickt rfl rfl) rfl ?_
      refine xo_rd (rd_assign rfl) rfl ?_
      refine xo_nil ?_
      refine xq_seq ?_
      refine xc_ret ?_
      refine xq_then_ret ?_
      rotate_left
      refine xc_skip ?_
      refine xq_seq ?_
      rotate_left
    · exact xq_ret1 (.inl rfl) Try.results3 rfl rfl
    · exfalso
      apply hb
      simpa using hy1
  focus
    refine xc_seq ?_
    refine xc_region ?_
    refine xo_rd (rd_move rfl) rfl ?_
    refine xo_rd (rd_move rfl) rfl ?_
    refine xo_ef rfl (ef_call rfl (XF.mono (xf_NewE b ca hb) ?_))
    rintro v L' ⟨r, rfl, rfl⟩
    refine xo_rd (rd_move rfl) rfl ?_
    refine xo_rd (rd_extract rfl rfl) rfl ?_
    refine xo_rd (rd_extract rfl rfl) rfl ?_
    refine xo_rd (rd_assign rfl) rfl ?_
    refine xo_rd (rd_assign rfl) rfl ?_
    refine xo_nil ?_
    refine xq_seq ?_
    refine xc_seq ?_
    refine xc_seq ?_
    refine xc_region ?_
    refine xo_rd (rd_move rfl) rfl ?_
    refine xo_ef rfl (ef_call rfl (XF.mono (xf_Right b) ?_))
    rintro v L' ⟨rfl, rfl⟩
    refine xo_rd (rd_not rfl) rfl ?_
    refine xo_nil ?_
    refine xq_seq ?_
    refine xc_cond rfl (fun hy1 => ?_) (fun hy1 => ?_)
    refine xc_seq ?_
    refine xc_region ?_
    refine xo_rd (rd_move rfl) rfl ?_
    refine xo_rd (rd_eqnil rfl) rfl ?_
    refine xo_rd (rd_move rfl) rfl ?_
    refine xo_gskip rfl rfl rfl rfl ?_
    refine xo_gskip rfl rfl rfl rfl ?_
    refine xo_rd (rd_pickf rfl rfl) rfl ?_
    refine xo_rd (rd_move rfl) rfl ?_
    refine xo_gskip rfl rfl rfl rfl ?_
    refine xo_rd (rd_pickf rfl rfl) rfl ?_
    refine xo_rd (rd_assign rfl) rfl ?_
    refine xo_nil ?_
    refine xq_seq ?_
    refine xc_ret ?_
    refine xq_then_ret ?_
    rotate_left
    refine xc_skip ?_
    refine xq_seq ?_
    rotate_left
  · exfalso
    rw [decide_eq_true hb.1, decide_eq_true hb.2] at hy1
    cases hy1
  focus
    refine xc_seq ?_
    refine xc_region ?_
    refine xo_rd (rd_move rfl) rfl ?_
    refine xo_rd (rd_move rfl) rfl ?_
    refine xo_rd (rd_cast (v' := .agg (qcl b ca false none 0 0).toArray) (rd_build (T := 33) rfl rfl rfl) (by kernel_rfl)) rfl ?_
    refine xo_ef rfl (ef_alloc fun r11 => ?_)
    refine xo_ef rfl (ef_storeB [] _ rfl rfl (by first | rfl | assumption) rfl rfl rfl ?_)
    refine xo_nil ?_
    refine xq_seq ?_
    refine xc_seq ?_
    refine xc_seq ?_
    refine xc_region ?_
    refine xo_rd (rd_assign rfl) rfl ?_
    refine xo_nil ?_
    refine xq_seq ?_
    refine xc_block ?_
  refine xc_perm (List.Perm.swap _ _ _) ?_
  refine xc_loopI (ι := PlS) (fun s => s.i ≤ n ∧ s.Ok W b ca r r11) (fun s => n - s.i) (fun s => plL b ca r r11 s) (fun s => [(2, .slice p n c), (3, .int .u64 g), (9, .pointer (some ⟨r, 0, none⟩)), (10, .int .i64 0), (11, .pointer (some ⟨r11, 0, none⟩)), (12, .int .i64 s.i)]) ⟨0, false, [], none, 0, [], [], none, 0, []⟩ ⟨Nat.zero_le _, ⟨SlQ.nil, (fun e h => by cases h), (fun e h => by cases h), Nat.zero_le _⟩, Rs.nil, (fun e h => by cases h), rfl, trivial, Nat.le_refl _, Nat.le_refl _⟩ rfl (by repeat (first | exact keep_nil | refine keep_cons rfl ?_)) ?_
  rintro ⟨i, bg, es, p1, c1, l, res, rp, rc, M⟩ ⟨hi, hok⟩
  rw [plL_mk]
  have hn50 : n ≤ 50 := by have := hsm.1; omega
  have hleq := hok.leq
  obtain ⟨hq, hrs, hrat, hsame, hstl, hcap, hlen⟩ := hok
  dsimp only at hi hleq hq hrs hrat hsame hstl hcap hlen ⊢
  by_cases hin : i < n
  · obtain ⟨b2, o2, hp2, hcl⟩ := hr.rs.rows Ac.len (by decide) (by omega)
    subst hp2
    have hca := hcl i (by omega)
    have hat := hr.at' xs[i] (List.getElem_mem _)
    have hfew := (hsm.2 xs[i] (List.getElem_mem _)).few
    generalize xs[i] = a at *
    have hd : ∀ L', Cl W L' b2 (o2 + (i : Int).toNat * 18 + 0) (.int .i64 a.d) := fun L' => (hca 0 _ rfl).mono fun z h => by cases h
    have hae : ∀ L' (j : Nat) (u : Value), a.e.enc[j]? = some u → Cl W L' b2 (o2 + (i : Int).toNat * 18 + 1 + j) u := fun L' j u hj => by
      have := hca (1 + j) u (Ac.ent hj)
      rw [show o2 + i * 18 + (1 + j) = o2 + (i : Int).toNat * 18 + 1 + j by omega] at this
      exact this.mono fun z h => by cases h
    have hat' : ∀ L', a.e.i.f.At W L' := fun L' => hat.mono fun z h => by cases h
    focus
      refine xc_seq ?_
      refine xc_seq ?_
      refine xc_region ?_
      refine xo_rd (rd_move rfl) rfl ?_
      refine xo_rd (rd_move rfl) rfl ?_
      refine xo_rd (rd_len rfl) rfl ?_
      refine xo_rd (rd_lss rfl rfl) rfl ?_
      refine xo_nil ?_
      refine xq_seq ?_
      refine xc_dec rfl (fun h1 => ?_) (fun h1 => (by exfalso; omega))
      refine xc_skip ?_
      refine xq_seq ?_
    refine xc_seq (xc_block ?_)
    refine xc_join (ι := PlS) (fun s => s.i = i + 1 ∧ s.Ok W b ca r r11) (fun s => plL b ca r r11 s) (fun _ => [(2, .slice (some ⟨b2, o2, none⟩) n c), (3, .int .u64 g), (9, .pointer (some ⟨r, 0, none⟩)), (10, .int .i64 0), (11, .pointer (some ⟨r11, 0, none⟩)), (12, .int .i64 i)]) ?_ ?_
    · generalize hkk : (a.d.tmod 5 + 5) % 5 = kk
      have hpk := fun L' => xf_pick (W := W) (L := L') a.d 5 (by decide) (by decide)
      rw [hkk] at hpk
      by_cases hk3 : kk = 3
      · obtain ⟨sf, hsf⟩ : ∃ x, freshA (es.map En.a) bg 0 = x := ⟨_, rfl⟩
        have hrb := fun L' (h : ∀ z, z ∈ M → z ∈ L') => xf_RBegin (W := W) (L := L') b ca bg res rp rc (hrs.mono h)
        rw [hsame, hsf] at hrb
        have hqb := fun R (h : ∀ z, z ∈ l → z ∈ R) => xf_Begin (W := W) (R := R) r b ca bg es p1 c1 (hq.o.rs h)
        rw [hsf] at hqb
        focus
          refine xc_seq ?_
          refine xc_region ?_
          refine xo_rd (rd_move rfl) rfl ?_
          refine xo_rd (rd_move rfl) rfl ?_
          refine xo_rd (rd_indexAddr rfl rfl (by omega) (by omega)) rfl ?_
          refine xo_rd (rd_fieldAddr rfl) rfl ?_
          refine xo_rd (rd_load1 rfl (hd _)) rfl ?_
          refine xo_ef rfl (ef_call rfl (XF.mono (hpk _) ?_))
          rintro v L' ⟨rfl, rfl⟩
          refine xo_nil ?_
          refine xq_seq ?_
          refine xc_block ?_
          refine xc_seq ?_
          refine xc_region ?_
          refine xo_rd (rd_eql rfl rfl) rfl ?_
          refine xo_rd (rd_assign rfl) rfl ?_
          refine xo_nil ?_
          refine xq_seq ?_
          refine xc_dec rfl (fun hz1 => ?_) (fun hz1 => (by exfalso; omega))
          refine xc_seq ?_
          refine xc_region ?_
          refine xo_rd (rd_loadB rfl Kn.o1 (by rfl)) rfl ?_
          refine xo_ef rfl (ef_call rfl (XF.mono (hrb _ (by intro z hz; simp [hz])) ?_))
          rintro v L' ⟨rfl, rfl⟩
          refine xo_rd (rd_move rfl) rfl ?_
          refine xo_rd (rd_extract rfl rfl) rfl ?_
          refine xo_rd (rd_extract rfl rfl) rfl ?_
          refine xo_ef rfl (ef_alloc fun r13 => ?_)
          refine xo_ef rfl (ef_storeB [] _ rfl rfl (by first | rfl | assumption) rfl rfl rfl ?_)
          refine xo_rd (rd_assign rfl) rfl ?_
          refine xo_nil ?_
          refine xq_seq ?_
          refine xc_seq ?_
          refine xc_region ?_
          refine xo_rd (rd_loadB rfl Kn.o0 (by rfl)) rfl ?_
          refine xo_ef rfl (ef_storeB [_, _] _ rfl rfl (by first | rfl | assumption) rfl rfl rfl ?_)
          refine xo_nil ?_
          refine xq_seq ?_
          refine xc_seq ?_
          refine xc_region ?_
          refine xo_rd (rd_move rfl) rfl ?_
          refine xo_ef rfl (ef_call rfl (XF.mono ((hqb ((r13, .cells (qcl b ca (bg || sf) rp res.length rc).toArray 33 (0, 0)) :: ((r11, .cells (qcl b ca (bg || sf) rp res.length rc).toArray 33 (0, 0)) :: (l ++ M))) (by intro z hz; simp [hz])).perm (List.Perm.swap _ _ _)) ?_))
          rintro v L' ⟨rfl, rfl⟩
          refine xo_rd (rd_move rfl) rfl ?_
          refine xo_rd (rd_neb rfl rfl) rfl ?_
          refine xo_nil ?_
          refine xq_seq ?_
          refine xc_cond rfl (fun hz2 => ?_) (fun hz2 => ?_)
          refine xc_seq ?_
          refine xc_region ?_
          refine xo_rd (rd_assign rfl) rfl ?_
          refine xo_nil ?_
          refine xq_seq ?_
          refine xc_ret ?_
          refine xq_block_ret ?_
          refine xq_then_ret ?_
          refine xq_block_ret ?_
          refine xq_then_ret ?_
          refine xq_then_ret ?_
          refine xq_block_ret ?_
          refine xq_then_ret ?_
          rotate_left
          refine xc_skip ?_
          refine xq_block ?_
          rotate_left
        · exfalso
          cases sf <;> simp at hz2
        · refine xq_sub (L' := plL b ca r r11 ⟨i + 1, bg || sf, es, p1, c1, l, res, rp, rc, M⟩) (List.Sublist.cons_cons _ (List.sublist_cons_self _ _)) (xq_joined (⟨i + 1, bg || sf, es, p1, c1, l, res, rp, rc, M⟩ : PlS) ⟨rfl, ⟨⟨hq.o, hq.at', hq.few, hq.len⟩, hrs, hrat, hsame, hstl, hcap, by dsimp only; omega⟩⟩ rfl (by repeat (first | exact keep_nil | refine keep_cons rfl ?_)))
      by_cases hk4 : kk = 4
      · cases es with
        | nil =>
          have hr0 : res = [] := List.eq_nil_of_length_eq_zero hleq
          subst hr0
          have hq0 := fun L' (h : ∀ z, z ∈ ((r, Obj.cells (qcl b ca bg p1 ([] : List En).length c1).toArray 108 (0, 0)) :: l : List Blk) → z ∈ L') => xf_Shift0 (W := W) (L := L') (Qs.mk r b ca bg [] p1 c1 l) (hq.qr h) rfl
          have hrs0 := fun L' => xf_RShift0 (W := W) (L := L') b ca bg rp rc
          have hen := fun L' => xf_REntry (W := W) (L := L') zEn zFr_at zFr_few
          focus
            refine xc_seq ?_
            refine xc_region ?_
            refine xo_rd (rd_move rfl) rfl ?_
            refine xo_rd (rd_move rfl) rfl ?_
            refine xo_rd (rd_indexAddr rfl rfl (by omega) (by omega)) rfl ?_
            refine xo_rd (rd_fieldAddr rfl) rfl ?_
            refine xo_rd (rd_load1 rfl (hd _)) rfl ?_
            refine xo_ef rfl (ef_call rfl (XF.mono (hpk _) ?_))
            rintro v L' ⟨rfl, rfl⟩
            refine xo_nil ?_
            refine xq_seq ?_
            refine xc_block ?_
            refine xc_seq ?_
            refine xc_region ?_
            refine xo_rd (rd_eql rfl rfl) rfl ?_
            refine xo_rd (rd_assign rfl) rfl ?_
            refine xo_nil ?_
            refine xq_seq ?_
            refine xc_dec rfl (fun hz1 => (by exfalso; omega)) (fun hz1 => ?_)
            refine xc_seq ?_
            refine xc_region ?_
            refine xo_rd (rd_eql rfl rfl) rfl ?_
            refine xo_rd (rd_assign rfl) rfl ?_
            refine xo_nil ?_
            refine xq_seq ?_
            refine xc_dec rfl (fun hz2 => ?_) (fun hz2 => (by exfalso; omega))
            refine xc_seq ?_
            refine xc_region ?_
            refine xo_rd (rd_loadB rfl Kn.o1 (by rfl)) rfl ?_
            refine xo_ef rfl (ef_call rfl (XF.mono (hrs0 _) ?_))
            rintro v L' ⟨rfl, rfl⟩
            refine xo_rd (rd_move rfl) rfl ?_
            refine xo_rd (rd_extract rfl rfl) rfl ?_
            refine xo_rd (rd_extract rfl rfl) rfl ?_
            refine xo_rd (rd_extract rfl rfl) rfl ?_
            refine xo_ef rfl (ef_alloc fun r15 => ?_)
            refine xo_ef rfl (ef_alloc fun r16 => ?_)
            refine xo_ef rfl (ef_storeB [_] _ rfl rfl (by first | rfl | assumption) rfl rfl rfl ?_)
            refine xo_ef rfl (ef_storeB [] _ rfl rfl (by first | rfl | assumption) rfl rfl rfl ?_)
            refine xo_rd (rd_assign rfl) rfl ?_
            refine xo_nil ?_
            refine xq_seq ?_
            refine xc_seq ?_
            refine xc_region ?_
            refine xo_rd (rd_loadB rfl Kn.o1 (by rfl)) rfl ?_
            refine xo_ef rfl (ef_storeB [_, _, _] _ rfl rfl (by first | rfl | assumption) rfl rfl rfl ?_)
            refine xo_nil ?_
            refine xq_seq ?_
            refine xc_seq ?_
            refine xc_region ?_
            refine xo_rd (rd_move rfl) rfl ?_
            refine xo_ef rfl (ef_call rfl (XF.mono (hq0 _ (fun z hz => List.mem_cons_of_mem _ (List.mem_cons_of_mem _ (by rcases List.mem_cons.1 hz with h | h; exact h ▸ List.mem_cons_self; exact List.mem_cons_of_mem _ (List.mem_cons_of_mem _ (List.mem_append_left _ h)))))) ?_))
            rintro v L' ⟨rfl, rfl⟩
            refine xo_rd (rd_move rfl) rfl ?_
            refine xo_rd (rd_extract rfl rfl) rfl ?_
            refine xo_rd (rd_extract rfl rfl) rfl ?_
            refine xo_ef rfl (ef_alloc fun r18 => ?_)
            refine xo_ef rfl (ef_storeB [] _ rfl rfl (by first | rfl | assumption) rfl rfl rfl ?_)
            refine xo_rd (rd_assign rfl) rfl ?_
            refine xo_nil ?_
            refine xq_seq ?_
          focus
            refine xc_seq ?_
            refine xc_seq ?_
            refine xc_drawML [0, 0, 3, 4, 8, 24, 8, 104, 136, 264] [0, 0, 3, 4, 8, 24, 8, 104, 136, 264] (by kernel_rfl) (by kernel_rfl) (by kernel_rfl) ?_
            refine xm_take 0 (m' := 1) rfl (by kernel_rfl) (by first | exact Sb.refl | exact Sb.nil | (repeat (first | exact Sb.nil | exact Sb.refl | exact Sb.app0 | apply Sb.keep | apply Sb.keepApp | apply Sb.cons | apply Sb.app))) (rd_move rfl) rfl (by kernel_rfl) ?_
            refine xm_take 1 (m' := 3) rfl (by kernel_rfl) (by first | exact Sb.refl | exact Sb.nil | (repeat (first | exact Sb.nil | exact Sb.refl | exact Sb.app0 | apply Sb.keep | apply Sb.keepApp | apply Sb.cons | apply Sb.app))) (rd_move rfl) rfl (by kernel_rfl) ?_
            refine xm_take 2 (m' := 7) rfl (by kernel_rfl) (by first | exact Sb.refl | exact Sb.nil | (repeat (first | exact Sb.nil | exact Sb.refl | exact Sb.app0 | apply Sb.keep | apply Sb.keepApp | apply Sb.cons | apply Sb.app))) (rd_neb rfl rfl) rfl (by kernel_rfl) ?_
            refine xm_take 3 (m' := 15) rfl (by kernel_rfl) (by first | exact Sb.refl | exact Sb.nil | (repeat (first | exact Sb.nil | exact Sb.refl | exact Sb.app0 | apply Sb.keep | apply Sb.keepApp | apply Sb.cons | apply Sb.app))) (rd_move rfl) rfl (by kernel_rfl) ?_
            refine xm_gtake 4 (m' := 31) rfl (by kernel_rfl) (by first | exact Sb.refl | exact Sb.nil | (repeat (first | exact Sb.nil | exact Sb.refl | exact Sb.app0 | apply Sb.keep | apply Sb.keepApp | apply Sb.cons | apply Sb.app))) rfl rfl (rd_loadB rfl Kn.o0 (by rfl)) rfl (by kernel_rfl) ?_
            refine xm_gtake 6 (m' := 95) rfl (by kernel_rfl) (by first | exact Sb.refl | exact Sb.nil | (repeat (first | exact Sb.nil | exact Sb.refl | exact Sb.app0 | apply Sb.keep | apply Sb.keepApp | apply Sb.cons | apply Sb.app))) rfl rfl (rd_loadB rfl Kn.o1 (by rfl)) rfl (by kernel_rfl) ?_
            refine xm_gone 5 (m' := 127) rfl (by kernel_rfl) rfl rfl rfl (by kernel_rfl) (ef_call rfl (XF.mono (hen _) ?_))
            rintro v L' ⟨y, rfl, hya, hyo, rfl⟩
            refine xmx_seg [_, _, _, _, _] y.i.f.bl _ ?_
            refine ⟨(by first | exact Sb.refl | exact Sb.nil | (repeat (first | exact Sb.nil | exact Sb.refl | exact Sb.app0 | apply Sb.keep | apply Sb.keepApp | apply Sb.cons | apply Sb.app))), ?_⟩
            refine xm_gone 7 (m' := 255) rfl (by kernel_rfl) rfl rfl rfl (by kernel_rfl) (ef_call rfl (XF.mono (xf_Same y zEn (hyo.at0.mono (by intro z hz; simp [hz])) zFr_at (Fr.few_of (En.a_f hya) zFr_few) true (decide_eq_true hya)) ?_))
            rintro v L' ⟨rfl, rfl⟩
            refine ⟨(by first | exact Sb.refl | exact Sb.nil | (repeat (first | exact Sb.nil | exact Sb.refl | exact Sb.app0 | apply Sb.keep | apply Sb.keepApp | apply Sb.cons | apply Sb.app))), ?_⟩
            refine xm_gtake 8 (m' := 511) rfl (by kernel_rfl) (by first | exact Sb.refl | exact Sb.nil | (repeat (first | exact Sb.nil | exact Sb.refl | exact Sb.app0 | apply Sb.keep | apply Sb.keepApp | apply Sb.cons | apply Sb.app))) rfl rfl (rd_not rfl) rfl (by kernel_rfl) ?_
            refine xm_take 9 (m' := 1023) rfl (by kernel_rfl) (by first | exact Sb.refl | exact Sb.nil | (repeat (first | exact Sb.nil | exact Sb.refl | exact Sb.app0 | apply Sb.keep | apply Sb.keepApp | apply Sb.cons | apply Sb.app))) (rd_pickf rfl rfl) rfl (by kernel_rfl) ?_
            refine xm_done (by kernel_rfl) ?_
            refine xq_seq ?_
            refine xc_condf rfl ?_
            refine xc_skip ?_
            refine xq_seq ?_
            refine xc_region ?_
            refine xo_rd (rd_fieldAddr rfl) rfl ?_
            refine xo_rd (rd_fieldAddr rfl) rfl ?_
          focus
            refine xo_rd (rd_loadA (vs := zFr.enc) rfl rfl (cl_sub (b := r18) (vs := zEn.enc) (T := 45) (fr := (0, 0)) 6 (List.Mem.head _) rfl)) rfl ?_
            refine xo_ef rfl (ef_call rfl (XF.mono (xf_Spoil0) ?_))
            rintro v L' ⟨rfl, rfl⟩
            refine xo_nil ?_
            refine xq_block ?_
          exact xq_sub (sub_s6 y.i.f.bl (l ++ M)) (xq_joined (⟨i + 1, bg, [], p1, c1, l, [], rp, rc, M⟩ : PlS) ⟨rfl, ⟨hq, hrs, hrat, rfl, trivial, hcap, Nat.zero_le _⟩⟩ rfl (by repeat (first | exact keep_nil | refine keep_cons rfl ?_)))
        | cons e es =>
          obtain ⟨e2, res', rfl⟩ : ∃ e2 res', res = e2 :: res' := by
            cases res with
            | nil => simp at hleq
            | cons a b => exact ⟨a, b, rfl⟩
          rw [List.map_cons, List.map_cons, List.cons.injEq] at hsame
          obtain ⟨hs1, hs2⟩ := hsame
          have hrs1 := fun L' (h : ∀ z, z ∈ M → z ∈ L') => xf_RShift (W := W) (L := L') (L0 := M) b ca bg e2 res' rp rc hrs h hcap
          have hqs := fun M' (h : ∀ z, z ∈ M → z ∈ M') => xf_Shift (W := W) (M := M') (M0 := M) r b ca bg e es p1 c1 l hq h
          have hat2 := (hrat e2 (List.mem_cons_self ..)).1
          focus
            refine xc_seq ?_
            refine xc_region ?_
            refine xo_rd (rd_move rfl) rfl ?_
            refine xo_rd (rd_move rfl) rfl ?_
            refine xo_rd (rd_indexAddr rfl rfl (by omega) (by omega)) rfl ?_
            refine xo_rd (rd_fieldAddr rfl) rfl ?_
            refine xo_rd (rd_load1 rfl (hd _)) rfl ?_
            refine xo_ef rfl (ef_call rfl (XF.mono (hpk _) ?_))
            rintro v L' ⟨rfl, rfl⟩
            refine xo_nil ?_
            refine xq_seq ?_
            refine xc_block ?_
            refine xc_seq ?_
            refine xc_region ?_
            refine xo_rd (rd_eql rfl rfl) rfl ?_
            refine xo_rd (rd_assign rfl) rfl ?_
            refine xo_nil ?_
            refine xq_seq ?_
            refine xc_dec rfl (fun hz1 => (by exfalso; omega)) (fun hz1 => ?_)
            refine xc_seq ?_
            refine xc_region ?_
            refine xo_rd (rd_eql rfl rfl) rfl ?_
            refine xo_rd (rd_assign rfl) rfl ?_
            refine xo_nil ?_
            refine xq_seq ?_
            refine xc_dec rfl (fun hz2 => ?_) (fun hz2 => (by exfalso; omega))
            refine xc_seq ?_
            refine xc_region ?_
            refine xo_rd (rd_loadB rfl Kn.o1 (by rfl)) rfl ?_
            refine xo_ef rfl (ef_call rfl (XF.mono (hrs1 _ (by intro z hz; simp [hz])) ?_))
            rintro v L' ⟨rp', rc', rfl, hrs', hcap', rfl⟩
            refine xo_rd (rd_move rfl) rfl ?_
            refine xo_rd (rd_extract rfl rfl) rfl ?_
            refine xo_rd (rd_extract rfl rfl) rfl ?_
            refine xo_rd (rd_extract rfl rfl) rfl ?_
            refine xo_ef rfl (ef_alloc fun r15 => ?_)
            refine xo_ef rfl (ef_alloc fun r16 => ?_)
            refine xo_ef rfl (ef_storeB [_] _ rfl rfl (by first | rfl | assumption) rfl rfl rfl ?_)
            refine xo_ef rfl (ef_storeB [] _ rfl rfl (by first | rfl | assumption) rfl rfl rfl ?_)
            refine xo_rd (rd_assign rfl) rfl ?_
            refine xo_nil ?_
            refine xq_seq ?_
            refine xc_seq ?_
            refine xc_region ?_
            refine xo_rd (rd_loadB rfl Kn.o1 (by rfl)) rfl ?_
            refine xo_ef rfl (ef_storeB [_, _, _] _ rfl rfl (by first | rfl | assumption) rfl rfl rfl ?_)
            refine xo_nil ?_
            refine xq_seq ?_
            refine xc_seq ?_
            refine xc_region ?_
            refine xo_rd (rd_move rfl) rfl ?_
            refine xo_ef rfl (ef_call rfl (XF.mono ((hqs ((r16, .cells e2.enc.toArray 57 (0, 0)) :: (r15, .cells (qcl b ca false rp' res'.length rc').toArray 33 (0, 0)) :: (r11, .cells (qcl b ca false rp' res'.length rc').toArray 33 (0, 0)) :: M) (by intro z hz; simp [hz])).perm (perm_s4 l M)) ?_))
            rintro v L' ⟨y, p2, c2, rfl, hya, hyo, hok2, rfl⟩
            refine xo_perm (perm_s4' y.i.f.bl l M) ?_
            refine xo_rd (rd_move rfl) rfl ?_
            refine xo_rd (rd_extract rfl rfl) rfl ?_
            refine xo_rd (rd_extract rfl rfl) rfl ?_
            refine xo_ef rfl (ef_alloc fun r18 => ?_)
            refine xo_ef rfl (ef_storeB [] _ rfl rfl (by first | rfl | assumption) rfl rfl rfl ?_)
            refine xo_rd (rd_assign rfl) rfl ?_
            refine xo_nil ?_
            refine xq_seq ?_
          have hfy := Fr.few_of (En.a_f hya) (hq.few e (List.mem_cons_self ..))
          have hen2 := fun L' (h : ∀ z, z ∈ y.i.f.bl → z ∈ L') => xf_REntry (W := W) (L := L') y (hyo.at0.mono h) hfy
          focus
            refine xc_seq ?_
            refine xc_seq ?_
            refine xc_drawML [0, 0, 3, 4, 8, 24, 8, 104, 136, 264] [0, 0, 3, 4, 8, 24, 8, 104, 136, 264] (by kernel_rfl) (by kernel_rfl) (by kernel_rfl) ?_
            refine xm_take 0 (m' := 1) rfl (by kernel_rfl) (by first | exact Sb.refl | exact Sb.nil | (repeat (first | exact Sb.nil | exact Sb.refl | exact Sb.app0 | apply Sb.keep | apply Sb.keepApp | apply Sb.cons | apply Sb.app))) (rd_move rfl) rfl (by kernel_rfl) ?_
            refine xm_take 1 (m' := 3) rfl (by kernel_rfl) (by first | exact Sb.refl | exact Sb.nil | (repeat (first | exact Sb.nil | exact Sb.refl | exact Sb.app0 | apply Sb.keep | apply Sb.keepApp | apply Sb.cons | apply Sb.app))) (rd_move rfl) rfl (by kernel_rfl) ?_
            refine xm_take 2 (m' := 7) rfl (by kernel_rfl) (by first | exact Sb.refl | exact Sb.nil | (repeat (first | exact Sb.nil | exact Sb.refl | exact Sb.app0 | apply Sb.keep | apply Sb.keepApp | apply Sb.cons | apply Sb.app))) (rd_neb rfl rfl) rfl (by kernel_rfl) ?_
            refine xm_take 3 (m' := 15) rfl (by kernel_rfl) (by first | exact Sb.refl | exact Sb.nil | (repeat (first | exact Sb.nil | exact Sb.refl | exact Sb.app0 | apply Sb.keep | apply Sb.keepApp | apply Sb.cons | apply Sb.app))) (rd_move rfl) rfl (by kernel_rfl) ?_
            refine xm_gtake 4 (m' := 31) rfl (by kernel_rfl) (by first | exact Sb.refl | exact Sb.nil | (repeat (first | exact Sb.nil | exact Sb.refl | exact Sb.app0 | apply Sb.keep | apply Sb.keepApp | apply Sb.cons | apply Sb.app))) rfl rfl (rd_loadB rfl Kn.o0 (by rfl)) rfl (by kernel_rfl) ?_
            refine xm_gtake 6 (m' := 95) rfl (by kernel_rfl) (by first | exact Sb.refl | exact Sb.nil | (repeat (first | exact Sb.nil | exact Sb.refl | exact Sb.app0 | apply Sb.keep | apply Sb.keepApp | apply Sb.cons | apply Sb.app))) rfl rfl (rd_loadB rfl Kn.o1 (by rfl)) rfl (by kernel_rfl) ?_
            refine xm_gone 5 (m' := 127) rfl (by kernel_rfl) rfl rfl rfl (by kernel_rfl) (ef_call rfl (XF.mono (hen2 _ (by intro z hz; simp [hz])) ?_))
            rintro v L' ⟨z, rfl, hza, hzo, rfl⟩
            refine xmx_seg [_, _, _, _, _] z.i.f.bl _ ?_
            refine ⟨(by first | exact Sb.refl | exact Sb.nil | (repeat (first | exact Sb.nil | exact Sb.refl | exact Sb.app0 | apply Sb.keep | apply Sb.keepApp | apply Sb.cons | apply Sb.app))), ?_⟩
            refine xm_gone 7 (m' := 255) rfl (by kernel_rfl) rfl rfl rfl (by kernel_rfl) (ef_call rfl (XF.mono (xf_Same z e2 (hzo.at0.mono (by intro z hz; simp [hz])) (hat2.mono (by intro z hz; simp [hz])) (Fr.few_of (En.a_f hza) hfy) true (decide_eq_true (hza.trans (hya.trans hs1.symm)))) ?_))
            rintro v L' ⟨rfl, rfl⟩
            refine ⟨(by first | exact Sb.refl | exact Sb.nil | (repeat (first | exact Sb.nil | exact Sb.refl | exact Sb.app0 | apply Sb.keep | apply Sb.keepApp | apply Sb.cons | apply Sb.app))), ?_⟩
            refine xm_gtake 8 (m' := 511) rfl (by kernel_rfl) (by first | exact Sb.refl | exact Sb.nil | (repeat (first | exact Sb.nil | exact Sb.refl | exact Sb.app0 | apply Sb.keep | apply Sb.keepApp | apply Sb.cons | apply Sb.app))) rfl rfl (rd_not rfl) rfl (by kernel_rfl) ?_
            refine xm_take 9 (m' := 1023) rfl (by kernel_rfl) (by first | exact Sb.refl | exact Sb.nil | (repeat (first | exact Sb.nil | exact Sb.refl | exact Sb.app0 | apply Sb.keep | apply Sb.keepApp | apply Sb.cons | apply Sb.app))) (rd_pickf rfl rfl) rfl (by kernel_rfl) ?_
            refine xm_done (by kernel_rfl) ?_
            refine xq_seq ?_
            refine xc_condf rfl ?_
            refine xc_skip ?_
            refine xq_seq ?_
            refine xc_region ?_
            refine xo_rd (rd_fieldAddr rfl) rfl ?_
            refine xo_rd (rd_fieldAddr rfl) rfl ?_
          focus
            refine xo_rd (rd_loadA (vs := y.i.f.enc) rfl rfl (cl_sub (b := r18) (vs := y.enc) (T := 45) (fr := (0, 0)) 6 (List.Mem.head _) rfl)) rfl ?_
            refine xo_ef rfl (ef_call rfl (XF.mono ((xf_SpoilFrame y.i.f hyo hfy).perm (perm_s6 z.i.f.bl l y.i.f.bl M)) ?_))
            rintro v L' ⟨rfl, rfl⟩
            refine xo_nil ?_
            refine xq_block ?_
          exact xq_sub (sub_s6 z.i.f.bl (l ++ M)) (xq_joined (⟨i + 1, false, es, p2, c2, l, res', rp', rc', M⟩ : PlS) ⟨rfl, ⟨hok2, hrs', fun e he => hrat e (List.mem_cons_of_mem _ he), hs2, stl_shift hstl, hcap', by dsimp only at hlen ⊢; rw [List.length_cons] at hlen; omega⟩⟩ rfl (by repeat (first | exact keep_nil | refine keep_cons rfl ?_)))
      · skip
        focus
          refine xc_seq ?_
          refine xc_region ?_
          refine xo_rd (rd_move rfl) rfl ?_
          refine xo_rd (rd_move rfl) rfl ?_
          refine xo_rd (rd_indexAddr rfl rfl (by omega) (by omega)) rfl ?_
          refine xo_rd (rd_fieldAddr rfl) rfl ?_
          refine xo_rd (rd_load1 rfl (hd _)) rfl ?_
          refine xo_ef rfl (ef_call rfl (XF.mono (hpk _) ?_))
          rintro v L' ⟨rfl, rfl⟩
          refine xo_nil ?_
          refine xq_seq ?_
          refine xc_block ?_
          refine xc_seq ?_
          refine xc_region ?_
          refine xo_rd (rd_eql rfl rfl) rfl ?_
          refine xo_rd (rd_assign rfl) rfl ?_
          refine xo_nil ?_
          refine xq_seq ?_
          refine xc_dec rfl (fun hz1 => (by exfalso; omega)) (fun hz1 => ?_)
          refine xc_seq ?_
          refine xc_region ?_
          refine xo_rd (rd_eql rfl rfl) rfl ?_
          refine xo_rd (rd_assign rfl) rfl ?_
          refine xo_nil ?_
          refine xq_seq ?_
          refine xc_dec rfl (fun hz2 => (by exfalso; omega)) (fun hz2 => ?_)
          refine xc_seq ?_
          refine xc_region ?_
          refine xo_rd (rd_move rfl) rfl ?_
          refine xo_rd (rd_move rfl) rfl ?_
          refine xo_rd (rd_indexAddr rfl rfl (by omega) (by omega)) rfl ?_
          refine xo_rd (rd_fieldAddr rfl) rfl ?_
          refine xo_rd (rd_loadA (vs := a.e.enc) rfl rfl (hae _)) rfl ?_
          refine xo_ef rfl (ef_alloc fun r20 => ?_)
          refine xo_ef rfl (ef_storeB [] _ rfl rfl (by first | rfl | assumption) rfl rfl rfl ?_)
          refine xo_nil ?_
          refine xq_seq ?_
        focus
          refine xc_seq ?_
          refine xc_region ?_
          refine xo_rd (rd_fieldAddr rfl) rfl ?_
          refine xo_rd (rd_fieldAddr rfl) rfl ?_
          refine xo_rd (rd_loadA (vs := a.e.i.f.enc) rfl rfl (cl_sub (b := r20) (vs := a.e.enc) (T := 45) (fr := (0, 0)) 6 (List.Mem.head _) rfl)) rfl ?_
          refine xo_ef rfl (ef_call rfl (XF.mono (xf_Copy a.e.i.f (hat' _) hfew) ?_))
          rintro v L' ⟨y, rfl, hya, hyo, rfl⟩
          refine xo_perm (perm_c3 y.bl l M) ?_
          refine xo_rd (rd_fieldAddr rfl) rfl ?_
          refine xo_rd (rd_fieldAddr rfl) rfl ?_
          refine xo_ef rfl (ef_storeW [] ((r, .cells (qcl b ca bg p1 es.length c1).toArray 108 (0, 0)) :: (r11, .cells (qcl b ca bg rp res.length rc).toArray 33 (0, 0)) :: (l ++ (y.bl ++ M))) 6 (vs := y.enc) (cs := a.e.enc) (ws := En.enc ⟨a.e.g, a.e.s, ⟨a.e.i.lo, a.e.i.kn, a.e.i.ti, a.e.i.dr, y⟩⟩) rfl rfl rfl rfl rfl (by rw [En.len, Fr.len]; decide) (by kernel_rfl) ?_)
          refine xo_nil ?_
          refine xq_seq ?_
        obtain ⟨ex, hex⟩ : ∃ ex : En, ex = ⟨a.e.g, a.e.s, ⟨a.e.i.lo, a.e.i.kn, a.e.i.ti, a.e.i.dr, y⟩⟩ := ⟨_, rfl⟩
        rw [← hex]
        have hxa : ex.a = a.e.a := by rw [hex]; unfold En.a; dsimp only; rw [hya]
        have hxf : ex.i.f = y := by rw [hex]
        obtain ⟨P, hP⟩ : ∃ P, putR b ca bg (es.map En.a) a.e.a = P := ⟨_, rfl⟩
        have hlaw := put_law b ca bg (es.map En.a) a.e.a hstl
        rw [hP] at hlaw
        obtain ⟨hlaw1, hlaw2⟩ := hlaw
        rw [hlaw1] at hlaw2
        have hrp : ∀ (z : En) (L' : List Blk) (h : ∀ q, q ∈ M → q ∈ L') (hza : z.a = a.e.a) (hzo : z.i.f.Ok 140), XF Try.prog W 21 #[.agg (qcl b ca bg rp res.length rc).toArray, .agg z.enc.toArray] L' (fun v L'' => ∃ (es' : List En) (p' : Option Addr) (c' : Nat) (N : List Blk), v = .tuple #[.agg (qcl b ca bg p' es'.length c').toArray, .int .i64 P.2] ∧ es'.map En.a = P.1 ∧ Rs W N p' (es'.flatMap En.enc) ∧ (∀ e, e ∈ es' → e.i.f.At W (z.i.f.bl ++ M) ∧ e.i.f.Few) ∧ es'.length ≤ res.length + 1 ∧ es'.length ≤ c' ∧ L'' = N ++ L') := fun z L' h hza hzo => by
          have h2 := xf_RPut (W := W) (L := L') (L0 := z.i.f.bl ++ M) b ca bg res rp rc (hrs.mono h) (fun e he => ((hrat e he).1).app) (fun e he => (hrat e he).2) (by omega) z hzo.at (Fr.few_of (En.a_f hza) hfew)
          rw [hsame, hza, hP] at h2
          exact h2
        refine xc_join (ι := RpS) (fun s => s.z.a = a.e.a ∧ s.z.i.f.Ok 140 ∧ s.es.map En.a = P.1 ∧ Rs W s.N s.p (s.es.flatMap En.enc) ∧ (∀ e, e ∈ s.es → e.i.f.At W (s.z.i.f.bl ++ M) ∧ e.i.f.Few) ∧ s.es.length ≤ res.length + 1 ∧ s.es.length ≤ s.c) (fun s => (s.r21, .cells (qcl b ca bg s.p s.es.length s.c).toArray 33 (0, 0)) :: (r20, .cells ex.enc.toArray 45 (0, 0)) :: (r, .cells (qcl b ca bg p1 es.length c1).toArray 108 (0, 0)) :: (r11, .cells (qcl b ca bg rp res.length rc).toArray 33 (0, 0)) :: (l ++ (s.N ++ (s.z.i.f.bl ++ (y.bl ++ M))))) (fun s => [(2, .slice (some ⟨b2, o2, none⟩) n c), (3, .int .u64 g), (9, .pointer (some ⟨r, 0, none⟩)), (10, .int .i64 0), (11, .pointer (some ⟨r11, 0, none⟩)), (12, .int .i64 i), (20, .pointer (some ⟨r20, 0, none⟩)), (21, .pointer (some ⟨s.r21, 0, none⟩)), (22, .int .i64 P.2)]) ?_ ?_
        · skip
          focus
            refine xc_drawML [0, 0, 0, 6, 8, 16, 32, 65, 128, 256, 256, 0, 3071, 8191] [0, 0, 0, 6, 8, 16, 32, 65, 128, 256, 256, 0, 3071, 8191] (by kernel_rfl) (by kernel_rfl) (by kernel_rfl) ?_
            refine xm_take 0 (m' := 1) rfl (by kernel_rfl) (by first | exact Sb.refl | exact Sb.nil | (repeat (first | exact Sb.nil | exact Sb.refl | exact Sb.app0 | apply Sb.keep | apply Sb.keepApp | apply Sb.cons | apply Sb.app))) (rd_loadB rfl Kn.o2 (by rfl)) rfl (by kernel_rfl) ?_
            refine xm_take 1 (m' := 3) rfl (by kernel_rfl) (by first | exact Sb.refl | exact Sb.nil | (repeat (first | exact Sb.nil | exact Sb.refl | exact Sb.app0 | apply Sb.keep | apply Sb.keepApp | apply Sb.cons | apply Sb.app))) (rd_move rfl) rfl (by kernel_rfl) ?_
            refine xm_take 2 (m' := 7) rfl (by kernel_rfl) (by first | exact Sb.refl | exact Sb.nil | (repeat (first | exact Sb.nil | exact Sb.refl | exact Sb.app0 | apply Sb.keep | apply Sb.keepApp | apply Sb.cons | apply Sb.app))) (rd_move rfl) rfl (by kernel_rfl) ?_
            refine xm_take 3 (m' := 15) rfl (by kernel_rfl) (by first | exact Sb.refl | exact Sb.nil | (repeat (first | exact Sb.nil | exact Sb.refl | exact Sb.app0 | apply Sb.keep | apply Sb.keepApp | apply Sb.cons | apply Sb.app))) (rd_indexAddr rfl rfl (by omega) (by omega)) rfl (by kernel_rfl) ?_
            refine xm_take 4 (m' := 31) rfl (by kernel_rfl) (by first | exact Sb.refl | exact Sb.nil | (repeat (first | exact Sb.nil | exact Sb.refl | exact Sb.app0 | apply Sb.keep | apply Sb.keepApp | apply Sb.cons | apply Sb.app))) (rd_fieldAddr rfl) rfl (by kernel_rfl) ?_
            refine xm_take 5 (m' := 63) rfl (by kernel_rfl) (by first | exact Sb.refl | exact Sb.nil | (repeat (first | exact Sb.nil | exact Sb.refl | exact Sb.app0 | apply Sb.keep | apply Sb.keepApp | apply Sb.cons | apply Sb.app))) (rd_loadA (vs := a.e.enc) rfl rfl (hae _)) rfl (by kernel_rfl) ?_
            refine xm_two 6 11 (mi := 127) (mk := 2111) rfl rfl (by kernel_rfl) rfl rfl (by kernel_rfl) (by kernel_rfl) (ef_call rfl (XF.mono (xf_REntry a.e (hat' _) hfew) ?_)) (ef_alloc fun r21 => ⟨(by first | exact Sb.refl | exact Sb.nil | (repeat (first | exact Sb.nil | exact Sb.refl | exact Sb.app0 | apply Sb.keep | apply Sb.keepApp | apply Sb.cons | apply Sb.app))), ?_⟩)
            rotate_left
            rotate_right
            rintro v L' ⟨z, rfl, hza, hzo, rfl⟩
            refine xmx_perm (perm_c3 z.i.f.bl l (y.bl ++ M)) ?_
            refine ⟨(by first | exact Sb.refl | exact Sb.nil | (repeat (first | exact Sb.nil | exact Sb.refl | exact Sb.app0 | apply Sb.keep | apply Sb.keepApp | apply Sb.cons | apply Sb.app))), ?_⟩
            refine xm_two 7 11 (mi := 255) (mk := 2175) rfl rfl (by kernel_rfl) rfl rfl (by kernel_rfl) (by kernel_rfl) (ef_call rfl (XF.mono (hrp z _ (by intro z hz; simp [hz]) hza hzo) ?_)) (ef_alloc fun r21 => ⟨(by first | exact Sb.refl | exact Sb.nil | (repeat (first | exact Sb.nil | exact Sb.refl | exact Sb.app0 | apply Sb.keep | apply Sb.keepApp | apply Sb.cons | apply Sb.app))), ?_⟩)
            rotate_left
            rotate_right
            rintro v L' ⟨es', p', c', N, rfl, hm', hN, hat'', hle', hcap', rfl⟩
            refine xmx_perm (perm_c3 N l (z.i.f.bl ++ (y.bl ++ M))) ?_
            refine ⟨(by first | exact Sb.refl | exact Sb.nil | (repeat (first | exact Sb.nil | exact Sb.refl | exact Sb.app0 | apply Sb.keep | apply Sb.keepApp | apply Sb.cons | apply Sb.app))), ?_⟩
            refine xm_take 8 (m' := 511) rfl (by kernel_rfl) (by first | exact Sb.refl | exact Sb.nil | (repeat (first | exact Sb.nil | exact Sb.refl | exact Sb.app0 | apply Sb.keep | apply Sb.keepApp | apply Sb.cons | apply Sb.app))) (rd_move rfl) rfl (by kernel_rfl) ?_
            refine xm_take 9 (m' := 1023) rfl (by kernel_rfl) (by first | exact Sb.refl | exact Sb.nil | (repeat (first | exact Sb.nil | exact Sb.refl | exact Sb.app0 | apply Sb.keep | apply Sb.keepApp | apply Sb.cons | apply Sb.app))) (rd_extract rfl rfl) rfl (by kernel_rfl) ?_
            refine xm_take 10 (m' := 2047) rfl (by kernel_rfl) (by first | exact Sb.refl | exact Sb.nil | (repeat (first | exact Sb.nil | exact Sb.refl | exact Sb.app0 | apply Sb.keep | apply Sb.keepApp | apply Sb.cons | apply Sb.app))) (rd_extract rfl rfl) rfl (by kernel_rfl) ?_
            refine xm_one 11 (m' := 4095) rfl (by kernel_rfl) rfl (by kernel_rfl) (ef_alloc fun r21 => ?_)
            refine ⟨(by first | exact Sb.refl | exact Sb.nil | (repeat (first | exact Sb.nil | exact Sb.refl | exact Sb.app0 | apply Sb.keep | apply Sb.keepApp | apply Sb.cons | apply Sb.app))), ?_⟩
            refine xm_one 12 (m' := 8191) rfl (by kernel_rfl) rfl (by kernel_rfl) (ef_storeB [] _ rfl rfl (by first | rfl | assumption) rfl rfl rfl ?_)
            refine ⟨(by first | exact Sb.refl | exact Sb.nil | (repeat (first | exact Sb.nil | exact Sb.refl | exact Sb.app0 | apply Sb.keep | apply Sb.keepApp | apply Sb.cons | apply Sb.app))), ?_⟩
            refine xm_take 13 (m' := 16383) rfl (by kernel_rfl) (by first | exact Sb.refl | exact Sb.nil | (repeat (first | exact Sb.nil | exact Sb.refl | exact Sb.app0 | apply Sb.keep | apply Sb.keepApp | apply Sb.cons | apply Sb.app))) (rd_assign rfl) rfl (by kernel_rfl) ?_
            refine xm_done (by kernel_rfl) ?_
            rotate_left
            refine xm_one 7 (m' := 2303) rfl (by kernel_rfl) rfl (by kernel_rfl) (ef_call rfl (XF.mono (hrp z _ (by intro z hz; simp [hz]) hza hzo) ?_))
            rintro v L' ⟨es', p', c', N, rfl, hm', hN, hat'', hle', hcap', rfl⟩
            refine xmx_perm (perm_c4 N l (z.i.f.bl ++ (y.bl ++ M))) ?_
            refine ⟨(by first | exact Sb.refl | exact Sb.nil | (repeat (first | exact Sb.nil | exact Sb.refl | exact Sb.app0 | apply Sb.keep | apply Sb.keepApp | apply Sb.cons | apply Sb.app))), ?_⟩
            refine xm_take 8 (m' := 2559) rfl (by kernel_rfl) (by first | exact Sb.refl | exact Sb.nil | (repeat (first | exact Sb.nil | exact Sb.refl | exact Sb.app0 | apply Sb.keep | apply Sb.keepApp | apply Sb.cons | apply Sb.app))) (rd_move rfl) rfl (by kernel_rfl) ?_
            refine xm_take 9 (m' := 3071) rfl (by kernel_rfl) (by first | exact Sb.refl | exact Sb.nil | (repeat (first | exact Sb.nil | exact Sb.refl | exact Sb.app0 | apply Sb.keep | apply Sb.keepApp | apply Sb.cons | apply Sb.app))) (rd_extract rfl rfl) rfl (by kernel_rfl) ?_
            refine xm_take 10 (m' := 4095) rfl (by kernel_rfl) (by first | exact Sb.refl | exact Sb.nil | (repeat (first | exact Sb.nil | exact Sb.refl | exact Sb.app0 | apply Sb.keep | apply Sb.keepApp | apply Sb.cons | apply Sb.app))) (rd_extract rfl rfl) rfl (by kernel_rfl) ?_
            refine xm_one 12 (m' := 8191) rfl (by kernel_rfl) rfl (by kernel_rfl) (ef_storeB [] _ rfl rfl (by first | rfl | assumption) rfl rfl rfl ?_)
            refine ⟨(by first | exact Sb.refl | exact Sb.nil | (repeat (first | exact Sb.nil | exact Sb.refl | exact Sb.app0 | apply Sb.keep | apply Sb.keepApp | apply Sb.cons | apply Sb.app))), ?_⟩
            refine xm_take 13 (m' := 16383) rfl (by kernel_rfl) (by first | exact Sb.refl | exact Sb.nil | (repeat (first | exact Sb.nil | exact Sb.refl | exact Sb.app0 | apply Sb.keep | apply Sb.keepApp | apply Sb.cons | apply Sb.app))) (rd_assign rfl) rfl (by kernel_rfl) ?_
            refine xm_done (by kernel_rfl) ?_
            rotate_left
            refine xm_one 6 (m' := 2175) rfl (by kernel_rfl) rfl (by kernel_rfl) (ef_call rfl (XF.mono (xf_REntry a.e (hat' _) hfew) ?_))
            rintro v L' ⟨z, rfl, hza, hzo, rfl⟩
            refine xmx_perm (perm_c4 z.i.f.bl l (y.bl ++ M)) ?_
            refine ⟨(by first | exact Sb.refl | exact Sb.nil | (repeat (first | exact Sb.nil | exact Sb.refl | exact Sb.app0 | apply Sb.keep | apply Sb.keepApp | apply Sb.cons | apply Sb.app))), ?_⟩
            refine xm_one 7 (m' := 2303) rfl (by kernel_rfl) rfl (by kernel_rfl) (ef_call rfl (XF.mono (hrp z _ (by intro z hz; simp [hz]) hza hzo) ?_))
            rintro v L' ⟨es', p', c', N, rfl, hm', hN, hat'', hle', hcap', rfl⟩
            refine xmx_perm (perm_c4 N l (z.i.f.bl ++ (y.bl ++ M))) ?_
            refine ⟨(by first | exact Sb.refl | exact Sb.nil | (repeat (first | exact Sb.nil | exact Sb.refl | exact Sb.app0 | apply Sb.keep | apply Sb.keepApp | apply Sb.cons | apply Sb.app))), ?_⟩
            refine xm_take 8 (m' := 2559) rfl (by kernel_rfl) (by first | exact Sb.refl | exact Sb.nil | (repeat (first | exact Sb.nil | exact Sb.refl | exact Sb.app0 | apply Sb.keep | apply Sb.keepApp | apply Sb.cons | apply Sb.app))) (rd_move rfl) rfl (by kernel_rfl) ?_
            refine xm_take 9 (m' := 3071) rfl (by kernel_rfl) (by first | exact Sb.refl | exact Sb.nil | (repeat (first | exact Sb.nil | exact Sb.refl | exact Sb.app0 | apply Sb.keep | apply Sb.keepApp | apply Sb.cons | apply Sb.app))) (rd_extract rfl rfl) rfl (by kernel_rfl) ?_
            refine xm_take 10 (m' := 4095) rfl (by kernel_rfl) (by first | exact Sb.refl | exact Sb.nil | (repeat (first | exact Sb.nil | exact Sb.refl | exact Sb.app0 | apply Sb.keep | apply Sb.keepApp | apply Sb.cons | apply Sb.app))) (rd_extract rfl rfl) rfl (by kernel_rfl) ?_
            refine xm_one 12 (m' := 8191) rfl (by kernel_rfl) rfl (by kernel_rfl) (ef_storeB [] _ rfl rfl (by first | rfl | assumption) rfl rfl rfl ?_)
            refine ⟨(by first | exact Sb.refl | exact Sb.nil | (repeat (first | exact Sb.nil | exact Sb.refl | exact Sb.app0 | apply Sb.keep | apply Sb.keepApp | apply Sb.cons | apply Sb.app))), ?_⟩
            refine xm_take 13 (m' := 16383) rfl (by kernel_rfl) (by first | exact Sb.refl | exact Sb.nil | (repeat (first | exact Sb.nil | exact Sb.refl | exact Sb.app0 | apply Sb.keep | apply Sb.keepApp | apply Sb.cons | apply Sb.app))) (rd_assign rfl) rfl (by kernel_rfl) ?_
            refine xm_done (by kernel_rfl) ?_
            rotate_left
          all_goals exact xq_joined (⟨z, es', p', c', N, r21⟩ : RpS) ⟨hza, hzo, hm', hN, hat'', hle', hcap'⟩ rfl (by repeat (first | exact keep_nil | refine keep_cons rfl ?_))
        rintro ⟨z, es', p', c', N, r21⟩ ⟨hza, hzo, hm', hN, hat'', hle', hcap'⟩
        dsimp only at hza hzo hm' hN hat'' hle' hcap' ⊢
        have hfx : ex.i.f.Few := by rw [hxf]; exact Fr.few_of hya hfew
        have hax : ∀ L', (∀ q, q ∈ y.bl → q ∈ L') → ex.i.f.At W L' := fun L' h => by rw [hxf]; exact hyo.at0.mono h
        have hput := fun r89 => xf_PutF (W := W) (M := (r89, .cells ex.enc.toArray 45 (0, 0)) :: (r21, .cells (qcl b ca bg p' es'.length c').toArray 33 (0, 0)) :: (r20, .cells ex.enc.toArray 45 (0, 0)) :: (r11, .cells (qcl b ca bg p' es'.length c').toArray 33 (0, 0)) :: (N ++ (z.i.f.bl ++ (y.bl ++ M)))) (M0 := M) r b ca bg es p1 c1 l hq (some ⟨r89, 0, none⟩) 1 ex (rs_1 (List.Mem.head _)) (hax _ (by intro z hz; simp [hz])) hfx (by omega) (es.map En.a) P.1 a.e.a P.2 rfl hxa hlaw1
        focus
          refine xc_seq ?_
          refine xc_region ?_
          refine xo_rd (rd_loadB rfl Kn.o0 (by rfl)) rfl ?_
          refine xo_ef rfl (ef_storeB [_, _, _] _ rfl rfl (by first | rfl | assumption) rfl rfl rfl ?_)
          refine xo_nil ?_
          refine xq_seq ?_
          refine xc_seq ?_
          refine xc_seq ?_
          refine xc_region ?_
          refine xo_rd (rd_move rfl) rfl ?_
          refine xo_rd (rd_loadB rfl Kn.o1 (by rfl)) rfl ?_
          refine xo_ef rfl (ef_sliceA (vs := ex.enc) rfl rfl (by rw [En.len]; decide) (by rw [En.len]; decide) fun r89 => ?_)
          refine xo_ef rfl (ef_call rfl (XF.mono ((hput r89).perm (perm_p5 l (N ++ (z.i.f.bl ++ (y.bl ++ M))))) ?_))
          rintro v L' ⟨es2, p2, c2, l2, N2, rfl, rfl, hok2, hm2⟩
          refine xo_perm (perm_p5' N2 l2 (N ++ (z.i.f.bl ++ (y.bl ++ M)))) ?_
          refine xo_rd (rd_move rfl) rfl ?_
          refine xo_rd (rd_neq rfl rfl) rfl ?_
          refine xo_nil ?_
          refine xq_seq ?_
          refine xc_ndec rfl (fun h => absurd rfl h) (fun _ => ?_)
          refine xc_skip ?_
          refine xq_seq ?_
          refine xc_region ?_
          refine xo_rd (rd_fieldAddr rfl) rfl ?_
          refine xo_rd (rd_fieldAddr rfl) rfl ?_
        have hl2 : es2.length ≤ es.length + 1 := by
          have h := congrArg List.length hm2
          rw [List.length_map] at h
          have h3 := putA_len b ca bg (es.map En.a) a.e.a
          rw [hlaw1, List.length_map] at h3
          omega
        have hfr20 : ∀ (j : Nat) (u : Value), y.enc[j]? = some u → Cl W ((r89, Obj.cells ex.enc.toArray 45 (0, 0)) :: (r21, Obj.cells (qcl b ca bg p' es'.length c').toArray 33 (0, 0)) :: (r20, Obj.cells ex.enc.toArray 45 (0, 0)) :: (r, Obj.cells (qcl b ca bg p2 es2.length c2).toArray 108 (0, 0)) :: (r11, Obj.cells (qcl b ca bg p' es'.length c').toArray 33 (0, 0)) :: (l2 ++ (N2 ++ (N ++ (z.i.f.bl ++ (y.bl ++ M)))))) r20 (6 + j) u :=
          cl_sub (b := r20) (vs := ex.enc) (T := 45) (fr := (0, 0)) 6 (List.Mem.tail _ (List.Mem.tail _ (List.Mem.head _))) (by rw [hex]; rfl)
        focus
          refine xo_rd (rd_loadA (vs := y.enc) rfl rfl hfr20) rfl ?_
          refine xo_ef rfl (ef_call rfl (XF.mono ((xf_SpoilFrame y hyo (Fr.few_of hya hfew)).perm (perm_p6 l2 N2 N z.i.f.bl y.bl M)) ?_))
          rintro v L' ⟨rfl, rfl⟩
          refine xo_nil ?_
          refine xq_block ?_
        refine xq_sub (sub_p7 (l2 ++ (N2 ++ (N ++ (z.i.f.bl ++ M))))) (xq_joined (⟨i + 1, bg, es2, p2, c2, l2, es', p', c', N2 ++ (N ++ (z.i.f.bl ++ M))⟩ : PlS) ⟨rfl, ⟨hok2.mono (mem_n2 N2 N z.i.f.bl M), hN.mono (fun q hq => List.mem_append_right _ (List.mem_append_left _ hq)), fun e he => ⟨((hat'' e he).1).mono (fun q hq => List.mem_append_right _ (List.mem_append_right _ hq)), (hat'' e he).2⟩, hm'.trans hm2.symm, by dsimp only; rw [hm2]; exact hlaw2, hcap', by dsimp only at hlen ⊢; omega⟩⟩ rfl (by repeat (first | exact keep_nil | refine keep_cons rfl ?_)))
    · clear hleq hq hrs hrat hsame hstl hcap hlen
      rintro ⟨i', bg, es, p1, c1, l, res, rp, rc, M⟩ ⟨hi', hok⟩
      dsimp only at hi'
      subst hi'
      have hokk := hok
      have hleq := hok.leq
      obtain ⟨hq, hrs, hrat, hsame, hstl, hcap, hlen⟩ := hok
      dsimp only at hleq hq hrs hrat hsame hstl hcap hlen
      rw [plL_mk, hleq]
      have hqr : ∀ L' : List Blk, (∀ z, z ∈ ((r, Obj.cells (qcl b ca bg p1 es.length c1).toArray 108 (0, 0)) :: l : List Blk) → z ∈ L') → QR W L' (Qs.mk r b ca bg es p1 c1 l) := fun L' h => hq.qr h
      have hes : es.length ≤ 1000000 := hq.len
      have hml : es.length ≤ 51 := by omega
      refine xc_join (ι := FiS) (fun s => s.y.i.f.Ok 116 ∧ s.y.i.f.Few ∧ (∀ e es', es = e :: es' → s.y.a = e.a)) (fun s => (s.r23, .cells s.y.enc.toArray 45 (0, 0)) :: (r, .cells (qcl b ca bg p1 es.length c1).toArray 108 (0, 0)) :: (r11, .cells (qcl b ca bg rp es.length rc).toArray 33 (0, 0)) :: (s.y.i.f.bl ++ (l ++ M))) (fun s => [(2, .slice (some ⟨b2, o2, none⟩) n c), (3, .int .u64 g), (9, .pointer (some ⟨r, 0, none⟩)), (10, .int .i64 0), (11, .pointer (some ⟨r11, 0, none⟩)), (12, .int .i64 i), (23, .pointer (some ⟨s.r23, 0, none⟩)), (24, .bool (decide ((0 : Int) < (es.length : Int))))]) ?_ ?_
      · cases es with
        | nil =>
          have hf0 := fun L' (h : ∀ z, z ∈ ((r, Obj.cells (qcl b ca bg p1 ([] : List En).length c1).toArray 108 (0, 0)) :: l : List Blk) → z ∈ L') => xf_First0 (W := W) (L := L') (Qs.mk r b ca bg [] p1 c1 l) (hqr L' h) rfl
          focus
            refine xc_region ?_
            refine xo_rd (rd_move rfl) rfl ?_
            refine xo_ef rfl (ef_call rfl (XF.mono (hf0 _ (mem_q l M)) ?_))
            rintro v L' ⟨rfl, rfl⟩
            refine xo_rd (rd_move rfl) rfl ?_
            refine xo_rd (rd_extract rfl rfl) rfl ?_
            refine xo_rd (rd_extract rfl rfl) rfl ?_
            refine xo_ef rfl (ef_alloc fun r23 => ?_)
            refine xo_ef rfl (ef_storeB [] _ rfl rfl (by first | rfl | assumption) rfl rfl rfl ?_)
            refine xo_rd (rd_assign rfl) rfl ?_
            refine xo_nil ?_
          exact xq_joined (⟨zEn, r23⟩ : FiS) ⟨⟨SlQ.nil, fun y h => by cases h⟩, zFr_few, fun e es' h => by cases h⟩ rfl (by repeat (first | exact keep_nil | refine keep_cons rfl ?_))
        | cons e es =>
          have hf1 := fun L' (h : ∀ z, z ∈ ((r, Obj.cells (qcl b ca bg p1 (e :: es).length c1).toArray 108 (0, 0)) :: l : List Blk) → z ∈ L') (h2 : ∀ z, z ∈ M → z ∈ L') => xf_First (W := W) (L := L') (Qs.mk r b ca bg (e :: es) p1 c1 l) (hqr L' h) (Nat.succ_pos _) ((hq.at' e (List.mem_cons_self ..)).mono h2) (hq.few e (List.mem_cons_self ..))
          have hdt : (decide ((0 : Int) < ((e :: es).length : Int))) = true := decide_eq_true (by show (0 : Int) < ((es.length + 1 : Nat) : Int); omega)
          rw [hdt]
          focus
            refine xc_region ?_
            refine xo_rd (rd_move rfl) rfl ?_
            refine xo_ef rfl (ef_call rfl (XF.mono (hf1 _ (mem_q l M) (mem_m l M)) ?_))
            rintro v L' ⟨y, rfl, hya, hyo, rfl⟩
            refine xo_perm (perm_f1 y.i.f.bl l M) ?_
            refine xo_rd (rd_move rfl) rfl ?_
            refine xo_rd (rd_extract rfl rfl) rfl ?_
            refine xo_rd (rd_extract rfl rfl) rfl ?_
            refine xo_ef rfl (ef_alloc fun r23 => ?_)
            refine xo_ef rfl (ef_storeB [] _ rfl rfl (by first | rfl | assumption) rfl rfl rfl ?_)
            refine xo_rd (rd_assign rfl) rfl ?_
            refine xo_nil ?_
          exact xq_joined (⟨y, r23⟩ : FiS) ⟨hyo, Fr.few_of (En.a_f hya) (hq.few e (List.mem_cons_self ..)), fun e' es' h => by rw [hya]; cases h; rfl⟩ rfl (by repeat (first | exact keep_nil | refine keep_cons rfl ?_))
      rintro ⟨y, r23⟩ ⟨hyo, hyf, hya⟩
      dsimp only at hyo hyf hya ⊢
      refine xc_join (ι := Unit) (fun _ => True) (fun _ => (r23, .cells y.enc.toArray 45 (0, 0)) :: (r, .cells (qcl b ca bg p1 es.length c1).toArray 108 (0, 0)) :: (r11, .cells (qcl b ca bg rp es.length rc).toArray 33 (0, 0)) :: (y.i.f.bl ++ (l ++ M))) (fun _ => [(2, .slice (some ⟨b2, o2, none⟩) n c), (3, .int .u64 g), (9, .pointer (some ⟨r, 0, none⟩)), (10, .int .i64 0), (11, .pointer (some ⟨r11, 0, none⟩)), (12, .int .i64 i), (23, .pointer (some ⟨r23, 0, none⟩))]) ?_ ?_
      · have hrf : ∀ L', (∀ z, z ∈ M → z ∈ L') → XF Try.prog W 26 #[.agg (qcl b ca bg rp es.length rc).toArray] L' (fun v L'' => v = .int .i64 (framesA (es.map En.a)) ∧ L'' = L') := fun L' h => by
          have := xf_RFrames (W := W) (L := L') b ca bg res rp rc (hrs.mono h) (by omega)
          rw [hsame, hleq] at this
          exact this
        have hrh : ∀ (kk : Bool) L', (∀ z, z ∈ M → z ∈ L') → XF Try.prog W 28 #[.agg (qcl b ca bg rp es.length rc).toArray, .int .u64 g, .bool kk] L' (fun v L'' => v = .bool (hasB (es.map En.a) bg g kk) ∧ L'' = L') := fun kk L' h => by
          have := xf_RHas (W := W) (L := L') b ca bg res rp rc (hrs.mono h) (by omega) g kk
          rw [hsame, hleq] at this
          exact this
        have hqf : ∀ L' : List Blk, (∀ z, z ∈ ((r, Obj.cells (qcl b ca bg p1 es.length c1).toArray 108 (0, 0)) :: l : List Blk) → z ∈ L') → XF Try.prog W 25 #[.pointer (some ⟨r, 0, none⟩)] L' (fun v L'' => v = .int .i64 (framesA (es.map En.a)) ∧ L'' = L') := fun L' h => xf_Frames (W := W) (L := L') (Qs.mk r b ca bg es p1 c1 l) (hqr L' h) hes
        have hqh : ∀ (kk : Bool) (L' : List Blk), (∀ z, z ∈ ((r, Obj.cells (qcl b ca bg p1 es.length c1).toArray 108 (0, 0)) :: l : List Blk) → z ∈ L') → XF Try.prog W 27 #[.pointer (some ⟨r, 0, none⟩), .int .u64 g, .bool kk] L' (fun v L'' => v = .bool (hasB (es.map En.a) bg g kk) ∧ L'' = L') := fun kk L' h => xf_Has (W := W) (L := L') (Qs.mk r b ca bg es p1 c1 l) (hqr L' h) hes g kk
        have hqb := fun L' h => xf_Begun (W := W) (L := L') (Qs.mk r b ca bg es p1 c1 l) (hqr L' h)
        rcases Nat.eq_zero_or_pos es.length with h0 | h0
        · rw [decide_eq_false (p := (0 : Int) < (es.length : Int)) (by omega)]
          focus
            refine xc_seq ?_
            refine xc_drawML [0, 0, 2, 4, 8, 17, 32, 64, 192, 256, 768, 256, 2304, 4352, 8448, 17664, 33024, 65856, 131136, 294912, 524288, 1572864, 524288, 4718592, 11010048, 17301504, 35651584, 67108864, 201326592, 67108864, 872415232, 1409286144, 2214592512, 5368709120, 8589934592, 8589934592, 60129542144, 8589934592, 8589934592, 489626271744, 627065225216, 1108101562368, 2748779069440, 4398046511104, 4398046511104, 30786325577728, 4398046511104, 4398046511104, 250688651132928, 321057395310592, 567347999932416] [0, 0, 2, 4, 8, 17, 32, 64, 192, 256, 768, 256, 2304, 4352, 8448, 17664, 33024, 65856, 131136, 294912, 524288, 1572864, 524288, 4718592, 11010048, 17301504, 35651584, 67108864, 201326592, 67108864, 872415232, 1409286144, 2214592512, 5368709120, 8589934592, 8589934592, 60129542144, 8589934592, 8589934592, 489626271744, 627065225216, 1108101562368, 2748779069440, 4398046511104, 4398046511104, 30786325577728, 4398046511104, 4398046511104, 250688651132928, 321057395310592, 567347999932416] (by kernel_rfl) (by kernel_rfl) (by kernel_rfl) ?_
            refine xm_take 0 (m' := 1) rfl (by kernel_rfl) (by first | exact Sb.refl | exact Sb.nil | (repeat (first | exact Sb.nil | exact Sb.refl | exact Sb.app0 | apply Sb.keep | apply Sb.keepApp | apply Sb.cons | apply Sb.app))) (rd_move rfl) rfl (by kernel_rfl) ?_
            refine xm_take 1 (m' := 3) rfl (by kernel_rfl) (by first | exact Sb.refl | exact Sb.nil | (repeat (first | exact Sb.nil | exact Sb.refl | exact Sb.app0 | apply Sb.keep | apply Sb.keepApp | apply Sb.cons | apply Sb.app))) (rd_fieldAddr rfl) rfl (by kernel_rfl) ?_
            refine xm_take 2 (m' := 7) rfl (by kernel_rfl) (by first | exact Sb.refl | exact Sb.nil | (repeat (first | exact Sb.nil | exact Sb.refl | exact Sb.app0 | apply Sb.keep | apply Sb.keepApp | apply Sb.cons | apply Sb.app))) (rd_load1 rfl (Cl.o2 rfl)) rfl (by kernel_rfl) ?_
            refine xm_take 3 (m' := 15) rfl (by kernel_rfl) (by first | exact Sb.refl | exact Sb.nil | (repeat (first | exact Sb.nil | exact Sb.refl | exact Sb.app0 | apply Sb.keep | apply Sb.keepApp | apply Sb.cons | apply Sb.app))) (rd_len rfl) rfl (by kernel_rfl) ?_
            refine xm_take 4 (m' := 31) rfl (by kernel_rfl) (by first | exact Sb.refl | exact Sb.nil | (repeat (first | exact Sb.nil | exact Sb.refl | exact Sb.app0 | apply Sb.keep | apply Sb.keepApp | apply Sb.cons | apply Sb.app))) (rd_cast (v' := .bool false) (rd_gtr rfl rfl) (congrArg Value.bool (decide_eq_false (by show ¬ (0 : Int) < (es.length : Int); omega)))) rfl (by kernel_rfl) ?_
            refine xm_take 5 (m' := 63) rfl (by kernel_rfl) (by first | exact Sb.refl | exact Sb.nil | (repeat (first | exact Sb.nil | exact Sb.refl | exact Sb.app0 | apply Sb.keep | apply Sb.keepApp | apply Sb.cons | apply Sb.app))) (rd_cast (v' := .bool false) (rd_neb rfl rfl) (congrArg Value.bool (by first | rfl | exact bnot_self _))) rfl (by kernel_rfl) ?_
            refine xm_take 6 (m' := 127) rfl (by kernel_rfl) (by first | exact Sb.refl | exact Sb.nil | (repeat (first | exact Sb.nil | exact Sb.refl | exact Sb.app0 | apply Sb.keep | apply Sb.keepApp | apply Sb.cons | apply Sb.app))) (rd_move rfl) rfl (by kernel_rfl) ?_
            refine xm_gtake 7 (m' := 255) rfl (by kernel_rfl) (by first | exact Sb.refl | exact Sb.nil | (repeat (first | exact Sb.nil | exact Sb.refl | exact Sb.app0 | apply Sb.keep | apply Sb.keepApp | apply Sb.cons | apply Sb.app))) rfl rfl (rd_move rfl) rfl (by kernel_rfl) ?_
            refine xm_gtake 8 (m' := 511) rfl (by kernel_rfl) (by first | exact Sb.refl | exact Sb.nil | (repeat (first | exact Sb.nil | exact Sb.refl | exact Sb.app0 | apply Sb.keep | apply Sb.keepApp | apply Sb.cons | apply Sb.app))) rfl rfl (rd_move rfl) rfl (by kernel_rfl) ?_
            refine xm_gskip 9 (m' := 1023) rfl (by kernel_rfl) (by first | exact Sb.refl | exact Sb.nil | (repeat (first | exact Sb.nil | exact Sb.refl | exact Sb.app0 | apply Sb.keep | apply Sb.keepApp | apply Sb.cons | apply Sb.app))) rfl rfl rfl rfl (by kernel_rfl) ?_
            refine xm_gskip 10 (m' := 2047) rfl (by kernel_rfl) (by first | exact Sb.refl | exact Sb.nil | (repeat (first | exact Sb.nil | exact Sb.refl | exact Sb.app0 | apply Sb.keep | apply Sb.keepApp | apply Sb.cons | apply Sb.app))) rfl rfl rfl rfl (by kernel_rfl) ?_
            refine xm_gskip 11 (m' := 4095) rfl (by kernel_rfl) (by first | exact Sb.refl | exact Sb.nil | (repeat (first | exact Sb.nil | exact Sb.refl | exact Sb.app0 | apply Sb.keep | apply Sb.keepApp | apply Sb.cons | apply Sb.app))) rfl rfl rfl rfl (by kernel_rfl) ?_
            refine xm_gskip 12 (m' := 8191) rfl (by kernel_rfl) (by first | exact Sb.refl | exact Sb.nil | (repeat (first | exact Sb.nil | exact Sb.refl | exact Sb.app0 | apply Sb.keep | apply Sb.keepApp | apply Sb.cons | apply Sb.app))) rfl rfl rfl rfl (by kernel_rfl) ?_
            refine xm_gskip 13 (m' := 16383) rfl (by kernel_rfl) (by first | exact Sb.refl | exact Sb.nil | (repeat (first | exact Sb.nil | exact Sb.refl | exact Sb.app0 | apply Sb.keep | apply Sb.keepApp | apply Sb.cons | apply Sb.app))) rfl rfl rfl rfl (by kernel_rfl) ?_
            refine xm_gskip 14 (m' := 32767) rfl (by kernel_rfl) (by first | exact Sb.refl | exact Sb.nil | (repeat (first | exact Sb.nil | exact Sb.refl | exact Sb.app0 | apply Sb.keep | apply Sb.keepApp | apply Sb.cons | apply Sb.app))) rfl rfl rfl rfl (by kernel_rfl) ?_
            refine xm_gskip 15 (m' := 65535) rfl (by kernel_rfl) (by first | exact Sb.refl | exact Sb.nil | (repeat (first | exact Sb.nil | exact Sb.refl | exact Sb.app0 | apply Sb.keep | apply Sb.keepApp | apply Sb.cons | apply Sb.app))) rfl rfl rfl rfl (by kernel_rfl) ?_
            refine xm_gskip 16 (m' := 131071) rfl (by kernel_rfl) (by first | exact Sb.refl | exact Sb.nil | (repeat (first | exact Sb.nil | exact Sb.refl | exact Sb.app0 | apply Sb.keep | apply Sb.keepApp | apply Sb.cons | apply Sb.app))) rfl rfl rfl rfl (by kernel_rfl) ?_
            refine xm_gtake 17 (m' := 262143) rfl (by kernel_rfl) (by first | exact Sb.refl | exact Sb.nil | (repeat (first | exact Sb.nil | exact Sb.refl | exact Sb.app0 | apply Sb.keep | apply Sb.keepApp | apply Sb.cons | apply Sb.app))) rfl rfl (rd_pickf rfl rfl) rfl (by kernel_rfl) ?_
            refine xm_take 18 (m' := 524287) rfl (by kernel_rfl) (by first | exact Sb.refl | exact Sb.nil | (repeat (first | exact Sb.nil | exact Sb.refl | exact Sb.app0 | apply Sb.keep | apply Sb.keepApp | apply Sb.cons | apply Sb.app))) (rd_pickf rfl rfl) rfl (by kernel_rfl) ?_
            refine xm_take 19 (m' := 1048575) rfl (by kernel_rfl) (by first | exact Sb.refl | exact Sb.nil | (repeat (first | exact Sb.nil | exact Sb.refl | exact Sb.app0 | apply Sb.keep | apply Sb.keepApp | apply Sb.cons | apply Sb.app))) (rd_move rfl) rfl (by kernel_rfl) ?_
            refine xm_gtake 20 (m' := 2097151) rfl (by kernel_rfl) (by first | exact Sb.refl | exact Sb.nil | (repeat (first | exact Sb.nil | exact Sb.refl | exact Sb.app0 | apply Sb.keep | apply Sb.keepApp | apply Sb.cons | apply Sb.app))) rfl rfl (rd_move rfl) rfl (by kernel_rfl) ?_
            refine xm_gtake 22 (m' := 6291455) rfl (by kernel_rfl) (by first | exact Sb.refl | exact Sb.nil | (repeat (first | exact Sb.nil | exact Sb.refl | exact Sb.app0 | apply Sb.keep | apply Sb.keepApp | apply Sb.cons | apply Sb.app))) rfl rfl (rd_fieldAddr rfl) rfl (by kernel_rfl) ?_
            refine xm_gtake 23 (m' := 14680063) rfl (by kernel_rfl) (by first | exact Sb.refl | exact Sb.nil | (repeat (first | exact Sb.nil | exact Sb.refl | exact Sb.app0 | apply Sb.keep | apply Sb.keepApp | apply Sb.cons | apply Sb.app))) rfl rfl (rd_load1 rfl (Cl.o2 rfl)) rfl (by kernel_rfl) ?_
            refine xm_gone 21 (m' := 16777215) rfl (by kernel_rfl) rfl rfl rfl (by kernel_rfl) (ef_call rfl (XF.mono (hqb _ (mem_q3 _ M)) ?_))
            rintro v L' ⟨rfl, rfl⟩
            refine ⟨(by first | exact Sb.refl | exact Sb.nil | (repeat (first | exact Sb.nil | exact Sb.refl | exact Sb.app0 | apply Sb.keep | apply Sb.keepApp | apply Sb.cons | apply Sb.app))), ?_⟩
            refine xm_gtake 24 (m' := 33554431) rfl (by kernel_rfl) (by first | exact Sb.refl | exact Sb.nil | (repeat (first | exact Sb.nil | exact Sb.refl | exact Sb.app0 | apply Sb.keep | apply Sb.keepApp | apply Sb.cons | apply Sb.app))) rfl rfl (rd_cast (v' := .bool false) (rd_neb rfl rfl) (congrArg Value.bool (by first | rfl | exact bnot_self _))) rfl (by kernel_rfl) ?_
            refine xm_take 25 (m' := 67108863) rfl (by kernel_rfl) (by first | exact Sb.refl | exact Sb.nil | (repeat (first | exact Sb.nil | exact Sb.refl | exact Sb.app0 | apply Sb.keep | apply Sb.keepApp | apply Sb.cons | apply Sb.app))) (rd_pickf rfl rfl) rfl (by kernel_rfl) ?_
            refine xm_take 26 (m' := 134217727) rfl (by kernel_rfl) (by first | exact Sb.refl | exact Sb.nil | (repeat (first | exact Sb.nil | exact Sb.refl | exact Sb.app0 | apply Sb.keep | apply Sb.keepApp | apply Sb.cons | apply Sb.app))) (rd_move rfl) rfl (by kernel_rfl) ?_
            refine xm_gtake 27 (m' := 268435455) rfl (by kernel_rfl) (by first | exact Sb.refl | exact Sb.nil | (repeat (first | exact Sb.nil | exact Sb.refl | exact Sb.app0 | apply Sb.keep | apply Sb.keepApp | apply Sb.cons | apply Sb.app))) rfl rfl (rd_move rfl) rfl (by kernel_rfl) ?_
            refine xm_gtake 29 (m' := 805306367) rfl (by kernel_rfl) (by first | exact Sb.refl | exact Sb.nil | (repeat (first | exact Sb.nil | exact Sb.refl | exact Sb.app0 | apply Sb.keep | apply Sb.keepApp | apply Sb.cons | apply Sb.app))) rfl rfl (rd_loadB rfl Kn.o2 (by rfl)) rfl (by kernel_rfl) ?_
            refine xm_gone 28 (m' := 1073741823) rfl (by kernel_rfl) rfl rfl rfl (by kernel_rfl) (ef_call rfl (XF.mono (hqf _ (mem_q3 _ M)) ?_))
            rintro v L' ⟨rfl, rfl⟩
            refine ⟨(by first | exact Sb.refl | exact Sb.nil | (repeat (first | exact Sb.nil | exact Sb.refl | exact Sb.app0 | apply Sb.keep | apply Sb.keepApp | apply Sb.cons | apply Sb.app))), ?_⟩
            refine xm_gone 30 (m' := 2147483647) rfl (by kernel_rfl) rfl rfl rfl (by kernel_rfl) (ef_call rfl (XF.mono (hrf _ (mem_m3 _ M)) ?_))
            rintro v L' ⟨rfl, rfl⟩
            refine ⟨(by first | exact Sb.refl | exact Sb.nil | (repeat (first | exact Sb.nil | exact Sb.refl | exact Sb.app0 | apply Sb.keep | apply Sb.keepApp | apply Sb.cons | apply Sb.app))), ?_⟩
            refine xm_gtake 31 (m' := 4294967295) rfl (by kernel_rfl) (by first | exact Sb.refl | exact Sb.nil | (repeat (first | exact Sb.nil | exact Sb.refl | exact Sb.app0 | apply Sb.keep | apply Sb.keepApp | apply Sb.cons | apply Sb.app))) rfl rfl (rd_neq rfl rfl) rfl (by kernel_rfl) ?_
            refine xm_take 32 (m' := 8589934591) rfl (by kernel_rfl) (by first | exact Sb.refl | exact Sb.nil | (repeat (first | exact Sb.nil | exact Sb.refl | exact Sb.app0 | apply Sb.keep | apply Sb.keepApp | apply Sb.cons | apply Sb.app))) (rd_pickf rfl rfl) rfl (by kernel_rfl) ?_
            refine xm_take 33 (m' := 17179869183) rfl (by kernel_rfl) (by first | exact Sb.refl | exact Sb.nil | (repeat (first | exact Sb.nil | exact Sb.refl | exact Sb.app0 | apply Sb.keep | apply Sb.keepApp | apply Sb.cons | apply Sb.app))) (rd_move rfl) rfl (by kernel_rfl) ?_
            refine xm_ndec 175 rfl (fun h => absurd rfl h) (fun _ => ?_)
            refine xm_gtake 34 (m' := 34359738367) rfl (by kernel_rfl) (by first | exact Sb.refl | exact Sb.nil | (repeat (first | exact Sb.nil | exact Sb.refl | exact Sb.app0 | apply Sb.keep | apply Sb.keepApp | apply Sb.cons | apply Sb.app))) rfl rfl (rd_move rfl) rfl (by kernel_rfl) ?_
            refine xm_gtake 35 (m' := 68719476735) rfl (by kernel_rfl) (by first | exact Sb.refl | exact Sb.nil | (repeat (first | exact Sb.nil | exact Sb.refl | exact Sb.app0 | apply Sb.keep | apply Sb.keepApp | apply Sb.cons | apply Sb.app))) rfl rfl (rd_move rfl) rfl (by kernel_rfl) ?_
            refine xm_gtake 37 (m' := 206158430207) rfl (by kernel_rfl) (by first | exact Sb.refl | exact Sb.nil | (repeat (first | exact Sb.nil | exact Sb.refl | exact Sb.app0 | apply Sb.keep | apply Sb.keepApp | apply Sb.cons | apply Sb.app))) rfl rfl (rd_loadB rfl Kn.o2 (by rfl)) rfl (by kernel_rfl) ?_
            refine xm_gtake 38 (m' := 481036337151) rfl (by kernel_rfl) (by first | exact Sb.refl | exact Sb.nil | (repeat (first | exact Sb.nil | exact Sb.refl | exact Sb.app0 | apply Sb.keep | apply Sb.keepApp | apply Sb.cons | apply Sb.app))) rfl rfl (rd_move rfl) rfl (by kernel_rfl) ?_
            refine xm_gone 36 (m' := 549755813887) rfl (by kernel_rfl) rfl rfl rfl (by kernel_rfl) (ef_call rfl (XF.mono (hqh _ _ (mem_q3 _ M)) ?_))
            rintro v L' ⟨rfl, rfl⟩
            refine ⟨(by first | exact Sb.refl | exact Sb.nil | (repeat (first | exact Sb.nil | exact Sb.refl | exact Sb.app0 | apply Sb.keep | apply Sb.keepApp | apply Sb.cons | apply Sb.app))), ?_⟩
            refine xm_gone 39 (m' := 1099511627775) rfl (by kernel_rfl) rfl rfl rfl (by kernel_rfl) (ef_call rfl (XF.mono (hrh _ _ (mem_m3 _ M)) ?_))
            rintro v L' ⟨rfl, rfl⟩
            refine ⟨(by first | exact Sb.refl | exact Sb.nil | (repeat (first | exact Sb.nil | exact Sb.refl | exact Sb.app0 | apply Sb.keep | apply Sb.keepApp | apply Sb.cons | apply Sb.app))), ?_⟩
            refine xm_gtake 40 (m' := 2199023255551) rfl (by kernel_rfl) (by first | exact Sb.refl | exact Sb.nil | (repeat (first | exact Sb.nil | exact Sb.refl | exact Sb.app0 | apply Sb.keep | apply Sb.keepApp | apply Sb.cons | apply Sb.app))) rfl rfl (rd_cast (v' := .bool false) (rd_neb rfl rfl) (congrArg Value.bool (by first | rfl | exact bnot_self _))) rfl (by kernel_rfl) ?_
            refine xm_take 41 (m' := 4398046511103) rfl (by kernel_rfl) (by first | exact Sb.refl | exact Sb.nil | (repeat (first | exact Sb.nil | exact Sb.refl | exact Sb.app0 | apply Sb.keep | apply Sb.keepApp | apply Sb.cons | apply Sb.app))) (rd_pickf rfl rfl) rfl (by kernel_rfl) ?_
            refine xm_take 42 (m' := 8796093022207) rfl (by kernel_rfl) (by first | exact Sb.refl | exact Sb.nil | (repeat (first | exact Sb.nil | exact Sb.refl | exact Sb.app0 | apply Sb.keep | apply Sb.keepApp | apply Sb.cons | apply Sb.app))) (rd_move rfl) rfl (by kernel_rfl) ?_
            refine xm_gtake 43 (m' := 17592186044415) rfl (by kernel_rfl) (by first | exact Sb.refl | exact Sb.nil | (repeat (first | exact Sb.nil | exact Sb.refl | exact Sb.app0 | apply Sb.keep | apply Sb.keepApp | apply Sb.cons | apply Sb.app))) rfl rfl (rd_move rfl) rfl (by kernel_rfl) ?_
            refine xm_gtake 44 (m' := 35184372088831) rfl (by kernel_rfl) (by first | exact Sb.refl | exact Sb.nil | (repeat (first | exact Sb.nil | exact Sb.refl | exact Sb.app0 | apply Sb.keep | apply Sb.keepApp | apply Sb.cons | apply Sb.app))) rfl rfl (rd_move rfl) rfl (by kernel_rfl) ?_
            refine xm_gtake 46 (m' := 105553116266495) rfl (by kernel_rfl) (by first | exact Sb.refl | exact Sb.nil | (repeat (first | exact Sb.nil | exact Sb.refl | exact Sb.app0 | apply Sb.keep | apply Sb.keepApp | apply Sb.cons | apply Sb.app))) rfl rfl (rd_loadB rfl Kn.o2 (by rfl)) rfl (by kernel_rfl) ?_
            refine xm_gtake 47 (m' := 246290604621823) rfl (by kernel_rfl) (by first | exact Sb.refl | exact Sb.nil | (repeat (first | exact Sb.nil | exact Sb.refl | exact Sb.app0 | apply Sb.keep | apply Sb.keepApp | apply Sb.cons | apply Sb.app))) rfl rfl (rd_move rfl) rfl (by kernel_rfl) ?_
            refine xm_gone 45 (m' := 281474976710655) rfl (by kernel_rfl) rfl rfl rfl (by kernel_rfl) (ef_call rfl (XF.mono (hqh _ _ (mem_q3 _ M)) ?_))
            rintro v L' ⟨rfl, rfl⟩
            refine ⟨(by first | exact Sb.refl | exact Sb.nil | (repeat (first | exact Sb.nil | exact Sb.refl | exact Sb.app0 | apply Sb.keep | apply Sb.keepApp | apply Sb.cons | apply Sb.app))), ?_⟩
            refine xm_gone 48 (m' := 562949953421311) rfl (by kernel_rfl) rfl rfl rfl (by kernel_rfl) (ef_call rfl (XF.mono (hrh _ _ (mem_m3 _ M)) ?_))
            rintro v L' ⟨rfl, rfl⟩
            refine ⟨(by first | exact Sb.refl | exact Sb.nil | (repeat (first | exact Sb.nil | exact Sb.refl | exact Sb.app0 | apply Sb.keep | apply Sb.keepApp | apply Sb.cons | apply Sb.app))), ?_⟩
            refine xm_gtake 49 (m' := 1125899906842623) rfl (by kernel_rfl) (by first | exact Sb.refl | exact Sb.nil | (repeat (first | exact Sb.nil | exact Sb.refl | exact Sb.app0 | apply Sb.keep | apply Sb.keepApp | apply Sb.cons | apply Sb.app))) rfl rfl (rd_cast (v' := .bool false) (rd_neb rfl rfl) (congrArg Value.bool (by first | rfl | exact bnot_self _))) rfl (by kernel_rfl) ?_
            refine xm_take 50 (m' := 2251799813685247) rfl (by kernel_rfl) (by first | exact Sb.refl | exact Sb.nil | (repeat (first | exact Sb.nil | exact Sb.refl | exact Sb.app0 | apply Sb.keep | apply Sb.keepApp | apply Sb.cons | apply Sb.app))) (rd_pickf rfl rfl) rfl (by kernel_rfl) ?_
            refine xm_done (by kernel_rfl) ?_
            refine xq_seq ?_
            refine xc_condf rfl ?_
            refine xc_skip ?_
          exact xq_joined () trivial rfl (by repeat (first | exact keep_nil | refine keep_cons rfl ?_))
        · rw [decide_eq_true (p := (0 : Int) < (es.length : Int)) (by omega)]
          have hy0 : y.a = (res[0]'(by omega)).a := by
            clear hqr hqf hqh hqb hrf hrh hokk hq hrs hrat
            cases es with
            | nil => exact absurd h0 (Nat.lt_irrefl _)
            | cons e es' => cases res with
              | nil => simp at hleq
              | cons e2 res' =>
                rw [List.map_cons, List.map_cons, List.cons.injEq] at hsame
                exact (hya e es' rfl).trans hsame.1.symm
          obtain ⟨b3, o3, hp3, hc3⟩ := el_of hrs (i := 0) (by omega)
          subst hp3
          have hc30 := hc3 0 (by omega)
          have hr0 := (hrat (res[0]'(by omega)) (List.getElem_mem _)).1
          generalize res[0]'(by omega) = e2 at hy0 hc30 hr0
          have hci0 : ∀ L', (∀ z, z ∈ M → z ∈ L') → ∀ (j : Nat) (u : Value), e2.enc[j]? = some u → Cl W L' b3 (o3 + (0 : Int).toNat * 17 + j) u := fun L' h j u hj => (hc30 j u hj).mono h
          have hen3 := fun L' (h : ∀ z, z ∈ y.i.f.bl → z ∈ L') => xf_REntry (W := W) (L := L') y (hyo.at0.mono h) hyf
          focus
            refine xc_seq ?_
            refine xc_drawML [0, 0, 2, 4, 8, 17, 32, 64, 192, 256, 768, 256, 2304, 4352, 8448, 17664, 33024, 65856, 131136, 294912, 524288, 1572864, 524288, 4718592, 11010048, 17301504, 35651584, 67108864, 201326592, 67108864, 872415232, 1409286144, 2214592512, 5368709120, 8589934592, 8589934592, 60129542144, 8589934592, 8589934592, 489626271744, 627065225216, 1108101562368, 2748779069440, 4398046511104, 4398046511104, 30786325577728, 4398046511104, 4398046511104, 250688651132928, 321057395310592, 567347999932416] [0, 0, 2, 4, 8, 17, 32, 64, 192, 256, 768, 256, 2304, 4352, 8448, 17664, 33024, 65856, 131136, 294912, 524288, 1572864, 524288, 4718592, 11010048, 17301504, 35651584, 67108864, 201326592, 67108864, 872415232, 1409286144, 2214592512, 5368709120, 8589934592, 8589934592, 60129542144, 8589934592, 8589934592, 489626271744, 627065225216, 1108101562368, 2748779069440, 4398046511104, 4398046511104, 30786325577728, 4398046511104, 4398046511104, 250688651132928, 321057395310592, 567347999932416] (by kernel_rfl) (by kernel_rfl) (by kernel_rfl) ?_
            refine xm_take 0 (m' := 1) rfl (by kernel_rfl) (by first | exact Sb.refl | exact Sb.nil | (repeat (first | exact Sb.nil | exact Sb.refl | exact Sb.app0 | apply Sb.keep | apply Sb.keepApp | apply Sb.cons | apply Sb.app))) (rd_move rfl) rfl (by kernel_rfl) ?_
            refine xm_take 1 (m' := 3) rfl (by kernel_rfl) (by first | exact Sb.refl | exact Sb.nil | (repeat (first | exact Sb.nil | exact Sb.refl | exact Sb.app0 | apply Sb.keep | apply Sb.keepApp | apply Sb.cons | apply Sb.app))) (rd_fieldAddr rfl) rfl (by kernel_rfl) ?_
            refine xm_take 2 (m' := 7) rfl (by kernel_rfl) (by first | exact Sb.refl | exact Sb.nil | (repeat (first | exact Sb.nil | exact Sb.refl | exact Sb.app0 | apply Sb.keep | apply Sb.keepApp | apply Sb.cons | apply Sb.app))) (rd_load1 rfl (Cl.o2 rfl)) rfl (by kernel_rfl) ?_
            refine xm_take 3 (m' := 15) rfl (by kernel_rfl) (by first | exact Sb.refl | exact Sb.nil | (repeat (first | exact Sb.nil | exact Sb.refl | exact Sb.app0 | apply Sb.keep | apply Sb.keepApp | apply Sb.cons | apply Sb.app))) (rd_len rfl) rfl (by kernel_rfl) ?_
            refine xm_take 4 (m' := 31) rfl (by kernel_rfl) (by first | exact Sb.refl | exact Sb.nil | (repeat (first | exact Sb.nil | exact Sb.refl | exact Sb.app0 | apply Sb.keep | apply Sb.keepApp | apply Sb.cons | apply Sb.app))) (rd_cast (v' := .bool true) (rd_gtr rfl rfl) (congrArg Value.bool (decide_eq_true (by show (0 : Int) < (es.length : Int); omega)))) rfl (by kernel_rfl) ?_
            refine xm_take 5 (m' := 63) rfl (by kernel_rfl) (by first | exact Sb.refl | exact Sb.nil | (repeat (first | exact Sb.nil | exact Sb.refl | exact Sb.app0 | apply Sb.keep | apply Sb.keepApp | apply Sb.cons | apply Sb.app))) (rd_cast (v' := .bool false) (rd_neb rfl rfl) (congrArg Value.bool (by first | rfl | exact bnot_self _))) rfl (by kernel_rfl) ?_
            refine xm_take 6 (m' := 127) rfl (by kernel_rfl) (by first | exact Sb.refl | exact Sb.nil | (repeat (first | exact Sb.nil | exact Sb.refl | exact Sb.app0 | apply Sb.keep | apply Sb.keepApp | apply Sb.cons | apply Sb.app))) (rd_move rfl) rfl (by kernel_rfl) ?_
            refine xm_gtake 7 (m' := 255) rfl (by kernel_rfl) (by first | exact Sb.refl | exact Sb.nil | (repeat (first | exact Sb.nil | exact Sb.refl | exact Sb.app0 | apply Sb.keep | apply Sb.keepApp | apply Sb.cons | apply Sb.app))) rfl rfl (rd_move rfl) rfl (by kernel_rfl) ?_
            refine xm_gtake 8 (m' := 511) rfl (by kernel_rfl) (by first | exact Sb.refl | exact Sb.nil | (repeat (first | exact Sb.nil | exact Sb.refl | exact Sb.app0 | apply Sb.keep | apply Sb.keepApp | apply Sb.cons | apply Sb.app))) rfl rfl (rd_move rfl) rfl (by kernel_rfl) ?_
            refine xm_gtake 9 (m' := 1023) rfl (by kernel_rfl) (by first | exact Sb.refl | exact Sb.nil | (repeat (first | exact Sb.nil | exact Sb.refl | exact Sb.app0 | apply Sb.keep | apply Sb.keepApp | apply Sb.cons | apply Sb.app))) rfl rfl (rd_loadB rfl Kn.o0 (by rfl)) rfl (by kernel_rfl) ?_
            refine xm_gtake 11 (m' := 3071) rfl (by kernel_rfl) (by first | exact Sb.refl | exact Sb.nil | (repeat (first | exact Sb.nil | exact Sb.refl | exact Sb.app0 | apply Sb.keep | apply Sb.keepApp | apply Sb.cons | apply Sb.app))) rfl rfl (rd_fieldAddr rfl) rfl (by kernel_rfl) ?_
            refine xm_gtake 12 (m' := 7167) rfl (by kernel_rfl) (by first | exact Sb.refl | exact Sb.nil | (repeat (first | exact Sb.nil | exact Sb.refl | exact Sb.app0 | apply Sb.keep | apply Sb.keepApp | apply Sb.cons | apply Sb.app))) rfl rfl (rd_load1 rfl (Cl.o2 rfl)) rfl (by kernel_rfl) ?_
            refine xm_gtake 13 (m' := 15359) rfl (by kernel_rfl) (by first | exact Sb.refl | exact Sb.nil | (repeat (first | exact Sb.nil | exact Sb.refl | exact Sb.app0 | apply Sb.keep | apply Sb.keepApp | apply Sb.cons | apply Sb.app))) rfl rfl (rd_indexAddr rfl rfl (by omega) (by omega)) rfl (by kernel_rfl) ?_
            refine xm_gtake 14 (m' := 31743) rfl (by kernel_rfl) (by first | exact Sb.refl | exact Sb.nil | (repeat (first | exact Sb.nil | exact Sb.refl | exact Sb.app0 | apply Sb.keep | apply Sb.keepApp | apply Sb.cons | apply Sb.app))) rfl rfl (rd_loadA (vs := e2.enc) rfl rfl (hci0 _ (by intro z hz; simp [hz]))) rfl (by kernel_rfl) ?_
            refine xm_gone 10 (m' := 32767) rfl (by kernel_rfl) rfl rfl rfl (by kernel_rfl) (ef_call rfl (XF.mono (hen3 _ (by intro z hz; simp [hz])) ?_))
            rintro v L' ⟨z, rfl, hza, hzo, rfl⟩
            refine xmx_seg [_, _, _] z.i.f.bl _ ?_
            refine ⟨(by first | exact Sb.refl | exact Sb.nil | (repeat (first | exact Sb.nil | exact Sb.refl | exact Sb.app0 | apply Sb.keep | apply Sb.keepApp | apply Sb.cons | apply Sb.app))), ?_⟩
            refine xm_gone 15 (m' := 65535) rfl (by kernel_rfl) rfl rfl rfl (by kernel_rfl) (ef_call rfl (XF.mono (xf_Same z e2 (hzo.at0.mono (by intro z hz; simp [hz])) (hr0.mono (by intro z hz; simp [hz])) (Fr.few_of (En.a_f hza) hyf) true (decide_eq_true (hza.trans hy0))) ?_))
            rintro v L' ⟨rfl, rfl⟩
            refine ⟨(by first | exact Sb.refl | exact Sb.nil | (repeat (first | exact Sb.nil | exact Sb.refl | exact Sb.app0 | apply Sb.keep | apply Sb.keepApp | apply Sb.cons | apply Sb.app))), ?_⟩
            refine xm_gtake 16 (m' := 131071) rfl (by kernel_rfl) (by first | exact Sb.refl | exact Sb.nil | (repeat (first | exact Sb.nil | exact Sb.refl | exact Sb.app0 | apply Sb.keep | apply Sb.keepApp | apply Sb.cons | apply Sb.app))) rfl rfl (rd_not rfl) rfl (by kernel_rfl) ?_
            refine xm_gtake 17 (m' := 262143) rfl (by kernel_rfl) (by first | exact Sb.refl | exact Sb.nil | (repeat (first | exact Sb.nil | exact Sb.refl | exact Sb.app0 | apply Sb.keep | apply Sb.keepApp | apply Sb.cons | apply Sb.app))) rfl rfl (rd_pickt rfl rfl) rfl (by kernel_rfl) ?_
            refine xm_take 18 (m' := 524287) rfl (by kernel_rfl) (by first | exact Sb.refl | exact Sb.nil | (repeat (first | exact Sb.nil | exact Sb.refl | exact Sb.app0 | apply Sb.keep | apply Sb.keepApp | apply Sb.cons | apply Sb.app))) (rd_pickf rfl rfl) rfl (by kernel_rfl) ?_
            refine xm_take 19 (m' := 1048575) rfl (by kernel_rfl) (by first | exact Sb.refl | exact Sb.nil | (repeat (first | exact Sb.nil | exact Sb.refl | exact Sb.app0 | apply Sb.keep | apply Sb.keepApp | apply Sb.cons | apply Sb.app))) (rd_move rfl) rfl (by kernel_rfl) ?_
            refine xm_gtake 20 (m' := 2097151) rfl (by kernel_rfl) (by first | exact Sb.refl | exact Sb.nil | (repeat (first | exact Sb.nil | exact Sb.refl | exact Sb.app0 | apply Sb.keep | apply Sb.keepApp | apply Sb.cons | apply Sb.app))) rfl rfl (rd_move rfl) rfl (by kernel_rfl) ?_
            refine xm_gtake 22 (m' := 6291455) rfl (by kernel_rfl) (by first | exact Sb.refl | exact Sb.nil | (repeat (first | exact Sb.nil | exact Sb.refl | exact Sb.app0 | apply Sb.keep | apply Sb.keepApp | apply Sb.cons | apply Sb.app))) rfl rfl (rd_fieldAddr rfl) rfl (by kernel_rfl) ?_
            refine xm_gtake 23 (m' := 14680063) rfl (by kernel_rfl) (by first | exact Sb.refl | exact Sb.nil | (repeat (first | exact Sb.nil | exact Sb.refl | exact Sb.app0 | apply Sb.keep | apply Sb.keepApp | apply Sb.cons | apply Sb.app))) rfl rfl (rd_load1 rfl (Cl.o2 rfl)) rfl (by kernel_rfl) ?_
            refine xm_gone 21 (m' := 16777215) rfl (by kernel_rfl) rfl rfl rfl (by kernel_rfl) (ef_call rfl (XF.mono (hqb _ (mem_q4 _ _ M)) ?_))
            rintro v L' ⟨rfl, rfl⟩
            refine ⟨(by first | exact Sb.refl | exact Sb.nil | (repeat (first | exact Sb.nil | exact Sb.refl | exact Sb.app0 | apply Sb.keep | apply Sb.keepApp | apply Sb.cons | apply Sb.app))), ?_⟩
            refine xm_gtake 24 (m' := 33554431) rfl (by kernel_rfl) (by first | exact Sb.refl | exact Sb.nil | (repeat (first | exact Sb.nil | exact Sb.refl | exact Sb.app0 | apply Sb.keep | apply Sb.keepApp | apply Sb.cons | apply Sb.app))) rfl rfl (rd_cast (v' := .bool false) (rd_neb rfl rfl) (congrArg Value.bool (by first | rfl | exact bnot_self _))) rfl (by kernel_rfl) ?_
            refine xm_take 25 (m' := 67108863) rfl (by kernel_rfl) (by first | exact Sb.refl | exact Sb.nil | (repeat (first | exact Sb.nil | exact Sb.refl | exact Sb.app0 | apply Sb.keep | apply Sb.keepApp | apply Sb.cons | apply Sb.app))) (rd_pickf rfl rfl) rfl (by kernel_rfl) ?_
            refine xm_take 26 (m' := 134217727) rfl (by kernel_rfl) (by first | exact Sb.refl | exact Sb.nil | (repeat (first | exact Sb.nil | exact Sb.refl | exact Sb.app0 | apply Sb.keep | apply Sb.keepApp | apply Sb.cons | apply Sb.app))) (rd_move rfl) rfl (by kernel_rfl) ?_
            refine xm_gtake 27 (m' := 268435455) rfl (by kernel_rfl) (by first | exact Sb.refl | exact Sb.nil | (repeat (first | exact Sb.nil | exact Sb.refl | exact Sb.app0 | apply Sb.keep | apply Sb.keepApp | apply Sb.cons | apply Sb.app))) rfl rfl (rd_move rfl) rfl (by kernel_rfl) ?_
            refine xm_gtake 29 (m' := 805306367) rfl (by kernel_rfl) (by first | exact Sb.refl | exact Sb.nil | (repeat (first | exact Sb.nil | exact Sb.refl | exact Sb.app0 | apply Sb.keep | apply Sb.keepApp | apply Sb.cons | apply Sb.app))) rfl rfl (rd_loadB rfl Kn.o2 (by rfl)) rfl (by kernel_rfl) ?_
            refine xm_gone 28 (m' := 1073741823) rfl (by kernel_rfl) rfl rfl rfl (by kernel_rfl) (ef_call rfl (XF.mono (hqf _ (mem_q4 _ _ M)) ?_))
            rintro v L' ⟨rfl, rfl⟩
            refine ⟨(by first | exact Sb.refl | exact Sb.nil | (repeat (first | exact Sb.nil | exact Sb.refl | exact Sb.app0 | apply Sb.keep | apply Sb.keepApp | apply Sb.cons | apply Sb.app))), ?_⟩
            refine xm_gone 30 (m' := 2147483647) rfl (by kernel_rfl) rfl rfl rfl (by kernel_rfl) (ef_call rfl (XF.mono (hrf _ (mem_m4 _ _ _ M)) ?_))
            rintro v L' ⟨rfl, rfl⟩
            refine ⟨(by first | exact Sb.refl | exact Sb.nil | (repeat (first | exact Sb.nil | exact Sb.refl | exact Sb.app0 | apply Sb.keep | apply Sb.keepApp | apply Sb.cons | apply Sb.app))), ?_⟩
            refine xm_gtake 31 (m' := 4294967295) rfl (by kernel_rfl) (by first | exact Sb.refl | exact Sb.nil | (repeat (first | exact Sb.nil | exact Sb.refl | exact Sb.app0 | apply Sb.keep | apply Sb.keepApp | apply Sb.cons | apply Sb.app))) rfl rfl (rd_neq rfl rfl) rfl (by kernel_rfl) ?_
            refine xm_take 32 (m' := 8589934591) rfl (by kernel_rfl) (by first | exact Sb.refl | exact Sb.nil | (repeat (first | exact Sb.nil | exact Sb.refl | exact Sb.app0 | apply Sb.keep | apply Sb.keepApp | apply Sb.cons | apply Sb.app))) (rd_pickf rfl rfl) rfl (by kernel_rfl) ?_
            refine xm_take 33 (m' := 17179869183) rfl (by kernel_rfl) (by first | exact Sb.refl | exact Sb.nil | (repeat (first | exact Sb.nil | exact Sb.refl | exact Sb.app0 | apply Sb.keep | apply Sb.keepApp | apply Sb.cons | apply Sb.app))) (rd_move rfl) rfl (by kernel_rfl) ?_
            refine xm_ndec 175 rfl (fun h => absurd rfl h) (fun _ => ?_)
            refine xm_gtake 34 (m' := 34359738367) rfl (by kernel_rfl) (by first | exact Sb.refl | exact Sb.nil | (repeat (first | exact Sb.nil | exact Sb.refl | exact Sb.app0 | apply Sb.keep | apply Sb.keepApp | apply Sb.cons | apply Sb.app))) rfl rfl (rd_move rfl) rfl (by kernel_rfl) ?_
            refine xm_gtake 35 (m' := 68719476735) rfl (by kernel_rfl) (by first | exact Sb.refl | exact Sb.nil | (repeat (first | exact Sb.nil | exact Sb.refl | exact Sb.app0 | apply Sb.keep | apply Sb.keepApp | apply Sb.cons | apply Sb.app))) rfl rfl (rd_move rfl) rfl (by kernel_rfl) ?_
            refine xm_gtake 37 (m' := 206158430207) rfl (by kernel_rfl) (by first | exact Sb.refl | exact Sb.nil | (repeat (first | exact Sb.nil | exact Sb.refl | exact Sb.app0 | apply Sb.keep | apply Sb.keepApp | apply Sb.cons | apply Sb.app))) rfl rfl (rd_loadB rfl Kn.o2 (by rfl)) rfl (by kernel_rfl) ?_
            refine xm_gtake 38 (m' := 481036337151) rfl (by kernel_rfl) (by first | exact Sb.refl | exact Sb.nil | (repeat (first | exact Sb.nil | exact Sb.refl | exact Sb.app0 | apply Sb.keep | apply Sb.keepApp | apply Sb.cons | apply Sb.app))) rfl rfl (rd_move rfl) rfl (by kernel_rfl) ?_
            refine xm_gone 36 (m' := 549755813887) rfl (by kernel_rfl) rfl rfl rfl (by kernel_rfl) (ef_call rfl (XF.mono (hqh _ _ (mem_q4 _ _ M)) ?_))
            rintro v L' ⟨rfl, rfl⟩
            refine ⟨(by first | exact Sb.refl | exact Sb.nil | (repeat (first | exact Sb.nil | exact Sb.refl | exact Sb.app0 | apply Sb.keep | apply Sb.keepApp | apply Sb.cons | apply Sb.app))), ?_⟩
            refine xm_gone 39 (m' := 1099511627775) rfl (by kernel_rfl) rfl rfl rfl (by kernel_rfl) (ef_call rfl (XF.mono (hrh _ _ (mem_m4 _ _ _ M)) ?_))
            rintro v L' ⟨rfl, rfl⟩
            refine ⟨(by first | exact Sb.refl | exact Sb.nil | (repeat (first | exact Sb.nil | exact Sb.refl | exact Sb.app0 | apply Sb.keep | apply Sb.keepApp | apply Sb.cons | apply Sb.app))), ?_⟩
            refine xm_gtake 40 (m' := 2199023255551) rfl (by kernel_rfl) (by first | exact Sb.refl | exact Sb.nil | (repeat (first | exact Sb.nil | exact Sb.refl | exact Sb.app0 | apply Sb.keep | apply Sb.keepApp | apply Sb.cons | apply Sb.app))) rfl rfl (rd_cast (v' := .bool false) (rd_neb rfl rfl) (congrArg Value.bool (by first | rfl | exact bnot_self _))) rfl (by kernel_rfl) ?_
            refine xm_take 41 (m' := 4398046511103) rfl (by kernel_rfl) (by first | exact Sb.refl | exact Sb.nil | (repeat (first | exact Sb.nil | exact Sb.refl | exact Sb.app0 | apply Sb.keep | apply Sb.keepApp | apply Sb.cons | apply Sb.app))) (rd_pickf rfl rfl) rfl (by kernel_rfl) ?_
            refine xm_take 42 (m' := 8796093022207) rfl (by kernel_rfl) (by first | exact Sb.refl | exact Sb.nil | (repeat (first | exact Sb.nil | exact Sb.refl | exact Sb.app0 | apply Sb.keep | apply Sb.keepApp | apply Sb.cons | apply Sb.app))) (rd_move rfl) rfl (by kernel_rfl) ?_
            refine xm_gtake 43 (m' := 17592186044415) rfl (by kernel_rfl) (by first | exact Sb.refl | exact Sb.nil | (repeat (first | exact Sb.nil | exact Sb.refl | exact Sb.app0 | apply Sb.keep | apply Sb.keepApp | apply Sb.cons | apply Sb.app))) rfl rfl (rd_move rfl) rfl (by kernel_rfl) ?_
            refine xm_gtake 44 (m' := 35184372088831) rfl (by kernel_rfl) (by first | exact Sb.refl | exact Sb.nil | (repeat (first | exact Sb.nil | exact Sb.refl | exact Sb.app0 | apply Sb.keep | apply Sb.keepApp | apply Sb.cons | apply Sb.app))) rfl rfl (rd_move rfl) rfl (by kernel_rfl) ?_
            refine xm_gtake 46 (m' := 105553116266495) rfl (by kernel_rfl) (by first | exact Sb.refl | exact Sb.nil | (repeat (first | exact Sb.nil | exact Sb.refl | exact Sb.app0 | apply Sb.keep | apply Sb.keepApp | apply Sb.cons | apply Sb.app))) rfl rfl (rd_loadB rfl Kn.o2 (by rfl)) rfl (by kernel_rfl) ?_
            refine xm_gtake 47 (m' := 246290604621823) rfl (by kernel_rfl) (by first | exact Sb.refl | exact Sb.nil | (repeat (first | exact Sb.nil | exact Sb.refl | exact Sb.app0 | apply Sb.keep | apply Sb.keepApp | apply Sb.cons | apply Sb.app))) rfl rfl (rd_move rfl) rfl (by kernel_rfl) ?_
            refine xm_gone 45 (m' := 281474976710655) rfl (by kernel_rfl) rfl rfl rfl (by kernel_rfl) (ef_call rfl (XF.mono (hqh _ _ (mem_q4 _ _ M)) ?_))
            rintro v L' ⟨rfl, rfl⟩
            refine ⟨(by first | exact Sb.refl | exact Sb.nil | (repeat (first | exact Sb.nil | exact Sb.refl | exact Sb.app0 | apply Sb.keep | apply Sb.keepApp | apply Sb.cons | apply Sb.app))), ?_⟩
            refine xm_gone 48 (m' := 562949953421311) rfl (by kernel_rfl) rfl rfl rfl (by kernel_rfl) (ef_call rfl (XF.mono (hrh _ _ (mem_m4 _ _ _ M)) ?_))
            rintro v L' ⟨rfl, rfl⟩
            refine ⟨(by first | exact Sb.refl | exact Sb.nil | (repeat (first | exact Sb.nil | exact Sb.refl | exact Sb.app0 | apply Sb.keep | apply Sb.keepApp | apply Sb.cons | apply Sb.app))), ?_⟩
            refine xm_gtake 49 (m' := 1125899906842623) rfl (by kernel_rfl) (by first | exact Sb.refl | exact Sb.nil | (repeat (first | exact Sb.nil | exact Sb.refl | exact Sb.app0 | apply Sb.keep | apply Sb.keepApp | apply Sb.cons | apply Sb.app))) rfl rfl (rd_cast (v' := .bool false) (rd_neb rfl rfl) (congrArg Value.bool (by first | rfl | exact bnot_self _))) rfl (by kernel_rfl) ?_
            refine xm_take 50 (m' := 2251799813685247) rfl (by kernel_rfl) (by first | exact Sb.refl | exact Sb.nil | (repeat (first | exact Sb.nil | exact Sb.refl | exact Sb.app0 | apply Sb.keep | apply Sb.keepApp | apply Sb.cons | apply Sb.app))) (rd_pickf rfl rfl) rfl (by kernel_rfl) ?_
            refine xm_done (by kernel_rfl) ?_
            refine xq_seq ?_
            refine xc_condf rfl ?_
            refine xc_skip ?_
          exact xq_sub (List.Sublist.cons_cons _ (List.Sublist.cons_cons _ (List.Sublist.cons_cons _ (List.sublist_append_right z.i.f.bl _)))) (xq_joined () trivial rfl (by repeat (first | exact keep_nil | refine keep_cons rfl ?_)))
      rintro ⟨⟩ _
      focus
        refine xc_seq ?_
        refine xc_region ?_
        refine xo_rd (rd_fieldAddr rfl) rfl ?_
        refine xo_rd (rd_fieldAddr rfl) rfl ?_
        refine xo_rd (rd_loadA (vs := y.i.f.enc) rfl rfl (cl_sub (b := r23) (vs := y.enc) (T := 45) (fr := (0, 0)) 6 (List.Mem.head _) rfl)) rfl ?_
        refine xo_ef rfl (ef_call rfl (XF.mono ((xf_SpoilFrame y.i.f hyo hyf).perm (perm_f2 y.i.f.bl (l ++ M))) ?_))
        rintro v L' ⟨rfl, rfl⟩
        refine xo_nil ?_
        refine xq_seq ?_
      refine xc_sub (List.sublist_cons_self _ _) ?_
      have hal := xf_All (W := W) (L := (r, .cells (qcl b ca bg p1 es.length c1).toArray 108 (0, 0)) :: (r11, .cells (qcl b ca bg rp es.length rc).toArray 33 (0, 0)) :: (l ++ M)) (Qs.mk r b ca bg es p1 c1 l) (hqr _ (mem_q l M)) (fun e he => (hq.at' e he).mono (mem_m l M)) hq.few hes
      focus
        refine xc_seq ?_
        refine xc_region ?_
        refine xo_rd (rd_move rfl) rfl ?_
        refine xo_ef rfl (ef_call rfl (XF.mono (hal) ?_))
        rintro v L' ⟨ys, qa, ka, la, rfl, hya2, hyo2, hsa, rfl⟩
        refine xo_perm (perm_a2 la (ebl ys) (l ++ M)) ?_
        refine xo_rd (rd_assign rfl) rfl ?_
        refine xo_nil ?_
        refine xq_seq ?_
      have hyl : ys.length = es.length := by
        have h := congrArg List.length hya2
        rw [List.length_map, Qs.len_a] at h
        exact h
      have hyf2 : ∀ e, e ∈ ys → e.i.f.Few := fun e he => by
        have h : e.a ∈ (Qs.mk r b ca bg es p1 c1 l).a := hya2 ▸ List.mem_map.2 ⟨e, he, rfl⟩
        obtain ⟨u, hu, hue⟩ := List.mem_map.1 h
        exact Fr.few_of (En.a_f hue.symm) (hq.few u hu)
      have hra : ∀ L', (∀ z, z ∈ (la ++ (ebl ys ++ (l ++ M)) : List Blk) → z ∈ L') → EnR W L' qa ys := fun L' h => ⟨hsa.rs fun q hq => h q (List.mem_append_left _ hq), fun e he => ((hyo2 e he).at0).mono fun q hq => h q (List.mem_append_right _ (List.mem_append_left _ (mem_ebl he hq)))⟩
      have hen := fun L' h => xf_Entries (W := W) (L := L') qa ys.length ka ys (hra L' h) rfl hyf2 (by omega)
      have hsa2 : ∀ (zs : List En) (qb : Option Addr) (kb : Nat) (lb : List Blk) (hza : zs.map En.a = ys.map En.a) (hzo : ∀ z, z ∈ zs → z.i.f.Ok 140) (hsb : SlQ 17 57 (.slice qb zs.length kb) zs.length (zs.flatMap En.enc) lb) L' (h1 : ∀ q, q ∈ lb ++ ebl zs → q ∈ L') (h2 : ∀ q, q ∈ M → q ∈ L'), XF Try.prog W 30 #[.slice qb zs.length kb, .slice rp es.length rc] L' (fun v L'' => v = .bool true ∧ L'' = L') := fun zs qb kb lb hza hzo hsb L' h1 h2 =>
        xf_SameAll (W := W) (L := L') qb rp zs.length es.length kb rc zs res true (decide_eq_true (by rw [hza, hya2, hsame]; rfl)) rfl hleq ⟨hsb.rs fun q hq => h1 q (List.mem_append_left _ hq), fun e he => ((hzo e he).at0).mono fun q hq => h1 q (List.mem_append_right _ (mem_ebl he hq))⟩ ⟨hrs.mono h2, fun e he => ((hrat e he).1).mono h2⟩ (fun e he => by
          have h : e.a ∈ ys.map En.a := hza ▸ List.mem_map.2 ⟨e, he, rfl⟩
          obtain ⟨u, hu, hue⟩ := List.mem_map.1 h
          exact Fr.few_of (En.a_f hue.symm) (hyf2 u hu)) (by
          have h := congrArg List.length hza
          rw [List.length_map, List.length_map] at h
          omega)
      focus
        refine xc_seq ?_
        refine xc_seq ?_
        refine xc_drawML [0, 1, 0, 4, 10, 16] [0, 1, 0, 4, 10, 16] (by kernel_rfl) (by kernel_rfl) (by kernel_rfl) ?_
        refine xm_take 0 (m' := 1) rfl (by kernel_rfl) (by first | exact Sb.refl | exact Sb.nil | (repeat (first | exact Sb.nil | exact Sb.refl | exact Sb.app0 | apply Sb.keep | apply Sb.keepApp | apply Sb.cons | apply Sb.app))) (rd_move rfl) rfl (by kernel_rfl) ?_
        refine xm_take 2 (m' := 5) rfl (by kernel_rfl) (by first | exact Sb.refl | exact Sb.nil | (repeat (first | exact Sb.nil | exact Sb.refl | exact Sb.app0 | apply Sb.keep | apply Sb.keepApp | apply Sb.cons | apply Sb.app))) (rd_fieldAddr rfl) rfl (by kernel_rfl) ?_
        refine xm_take 3 (m' := 13) rfl (by kernel_rfl) (by first | exact Sb.refl | exact Sb.nil | (repeat (first | exact Sb.nil | exact Sb.refl | exact Sb.app0 | apply Sb.keep | apply Sb.keepApp | apply Sb.cons | apply Sb.app))) (rd_load1 rfl (Cl.o1 rfl)) rfl (by kernel_rfl) ?_
        refine xm_one 1 (m' := 15) rfl (by kernel_rfl) rfl (by kernel_rfl) (ef_call rfl (XF.mono (hen _ (fun z hz => List.mem_cons_of_mem _ (List.mem_cons_of_mem _ hz))) ?_))
        rintro v L' ⟨zs, qb, kb, lb, rfl, hza, hzo, hsb, rfl⟩
        refine xmx_perm (perm_a2 lb (ebl zs) (la ++ (ebl ys ++ (l ++ M)))) ?_
        refine ⟨(by first | exact Sb.refl | exact Sb.nil | (repeat (first | exact Sb.nil | exact Sb.refl | exact Sb.app0 | apply Sb.keep | apply Sb.keepApp | apply Sb.cons | apply Sb.app))), ?_⟩
        refine xm_one 4 (m' := 31) rfl (by kernel_rfl) rfl (by kernel_rfl) (ef_call rfl (XF.mono (hsa2 zs qb kb lb hza hzo hsb _ (mem_e1 lb (ebl zs) _) (mem_e2 lb (ebl zs) la (ebl ys) l M)) ?_))
        rintro v L' ⟨rfl, rfl⟩
        refine ⟨(by first | exact Sb.refl | exact Sb.nil | (repeat (first | exact Sb.nil | exact Sb.refl | exact Sb.app0 | apply Sb.keep | apply Sb.keepApp | apply Sb.cons | apply Sb.app))), ?_⟩
        refine xm_take 5 (m' := 63) rfl (by kernel_rfl) (by first | exact Sb.refl | exact Sb.nil | (repeat (first | exact Sb.nil | exact Sb.refl | exact Sb.app0 | apply Sb.keep | apply Sb.keepApp | apply Sb.cons | apply Sb.app))) (rd_not rfl) rfl (by kernel_rfl) ?_
        refine xm_done (by kernel_rfl) ?_
        refine xq_seq ?_
        refine xc_condf rfl ?_
        refine xc_skip ?_
        refine xq_seq ?_
      refine xc_sub (L' := (r, .cells (qcl b ca bg p1 es.length c1).toArray 108 (0, 0)) :: (r11, .cells (qcl b ca bg rp es.length rc).toArray 33 (0, 0)) :: (la ++ (ebl ys ++ (l ++ M)))) (List.Sublist.cons_cons _ (List.Sublist.cons_cons _ ((List.sublist_append_right (ebl zs) _).trans (List.sublist_append_right lb _)))) ?_
      focus
        refine xc_seq ?_
        refine xc_region ?_
        refine xo_rd (rd_assign rfl) rfl ?_
        refine xo_nil ?_
        refine xq_seq ?_
        refine xc_block ?_
      refine xc_loopI (ι := Nat) (fun j => j ≤ ys.length) (fun j => ys.length - j) (fun j => (r, .cells (qcl b ca bg p1 es.length c1).toArray 108 (0, 0)) :: (r11, .cells (qcl b ca bg rp es.length rc).toArray 33 (0, 0)) :: (la ++ (ebl (ys.drop j) ++ (l ++ M)))) (fun j => [(2, .slice (some ⟨b2, o2, none⟩) n c), (3, .int .u64 g), (9, .pointer (some ⟨r, 0, none⟩)), (10, .int .i64 0), (11, .pointer (some ⟨r11, 0, none⟩)), (12, .int .i64 i), (25, .slice qa ys.length ka), (26, .int .i64 j)]) 0 (Nat.zero_le _) rfl (by repeat (first | exact keep_nil | refine keep_cons rfl ?_)) ?_
      intro j hj
      by_cases hjn : j < ys.length
      · have hRq : Rs W ((r, .cells (qcl b ca bg p1 es.length c1).toArray 108 (0, 0)) :: (r11, .cells (qcl b ca bg rp es.length rc).toArray 33 (0, 0)) :: (la ++ (ebl (ys.drop j) ++ (l ++ M)))) qa (ys.flatMap En.enc) := hsa.rs fun q hq => List.mem_cons_of_mem _ (List.mem_cons_of_mem _ (List.mem_append_left _ hq))
        rw [ebl_cons ys j hjn] at hRq ⊢
        obtain ⟨b4, o4, hq4, hc4⟩ := el_of hRq hjn
        subst hq4
        have hcj := hc4 j hjn
        have hoj := hyo2 ys[j] (List.getElem_mem _)
        have hfj := hyf2 ys[j] (List.getElem_mem _)
        generalize ys[j] = yj at *
        have hcf := en_frm hcj
        focus
          refine xc_seq ?_
          refine xc_seq ?_
          refine xc_region ?_
          refine xo_rd (rd_move rfl) rfl ?_
          refine xo_rd (rd_move rfl) rfl ?_
          refine xo_rd (rd_len rfl) rfl ?_
          refine xo_rd (rd_lss rfl rfl) rfl ?_
          refine xo_nil ?_
          refine xq_seq ?_
          refine xc_dec rfl (fun h1 => ?_) (fun h1 => (by exfalso; omega))
          refine xc_skip ?_
          refine xq_seq ?_
          refine xc_seq ?_
          refine xc_block ?_
          refine xc_region ?_
          refine xo_rd (rd_move rfl) rfl ?_
          refine xo_rd (rd_move rfl) rfl ?_
          refine xo_rd (rd_indexAddr rfl rfl (by omega) (by omega)) rfl ?_
          refine xo_rd (rd_fieldAddr rfl) rfl ?_
          refine xo_rd (rd_fieldAddr rfl) rfl ?_
          refine xo_rd (rd_loadA (vs := yj.i.f.enc) rfl rfl hcf) rfl ?_
          refine xo_ef rfl (ef_call rfl (XF.mono ((xf_SpoilFrame yj.i.f hoj hfj).perm (perm_a3 la yj.i.f.bl (ebl (ys.drop (j + 1))) (l ++ M))) ?_))
          rintro v L' ⟨rfl, rfl⟩
          refine xo_nil ?_
          refine xq_block ?_
          refine xq_seq ?_
          refine xc_region ?_
          refine xo_rd (rd_move rfl) rfl ?_
          refine xo_rd (rd_addn rfl rfl (by omega) (by omega)) rfl ?_
          refine xo_rd (rd_assign rfl) rfl ?_
          refine xo_nil ?_
        exact xq_roundI (j + 1) (by omega) (by omega) rfl (by repeat (first | exact keep_nil | refine keep_cons rfl ?_))
      · skip
        focus
          refine xc_seq ?_
          refine xc_seq ?_
          refine xc_region ?_
          refine xo_rd (rd_move rfl) rfl ?_
          refine xo_rd (rd_move rfl) rfl ?_
          refine xo_rd (rd_len rfl) rfl ?_
          refine xo_rd (rd_lss rfl rfl) rfl ?_
          refine xo_nil ?_
          refine xq_seq ?_
          refine xc_dec rfl (fun h1 => (by exfalso; omega)) (fun h1 => ?_)
          refine xc_exit ?_
          refine xq_then_exit ?_
          refine xq_then_exit ?_
          refine xq_block_hit ?_
          refine xq_block ?_
          refine xq_seq ?_
          refine xc_region ?_
          refine xo_rd (rd_move rfl) rfl ?_
          refine xo_rd (rd_addn rfl rfl (by omega) (by omega)) rfl ?_
          refine xo_rd (rd_assign rfl) rfl ?_
          refine xo_nil ?_
        refine xq_sub (L' := plL b ca r r11 ⟨i + 1, bg, es, p1, c1, l, res, rp, rc, M⟩) ?_ (xq_roundI (⟨i + 1, bg, es, p1, c1, l, res, rp, rc, M⟩ : PlS) ⟨by dsimp only; omega, hokk⟩ (by dsimp only; omega) rfl (by repeat (first | exact keep_nil | refine keep_cons rfl ?_)))
        rw [plL_mk, hleq]
        exact List.Sublist.cons_cons _ (List.Sublist.cons_cons _ ((List.sublist_append_right _ _).trans (List.sublist_append_right la _)))
  · skip
    focus
      refine xc_seq ?_
      refine xc_seq ?_
      refine xc_region ?_
      refine xo_rd (rd_move rfl) rfl ?_
      refine xo_rd (rd_move rfl) rfl ?_
      refine xo_rd (rd_len rfl) rfl ?_
      refine xo_rd (rd_lss rfl rfl) rfl ?_
      refine xo_nil ?_
      refine xq_seq ?_
      refine xc_dec rfl (fun h1 => (by exfalso; omega)) (fun h1 => ?_)
      refine xc_exit ?_
      refine xq_then_exit ?_
      refine xq_then_exit ?_
      refine xq_block_hit ?_
      refine xq_seq ?_
      refine xc_seq ?_
      refine xc_region ?_
      refine xo_rd (rd_move rfl) rfl ?_
      refine xo_rd (rd_eql rfl rfl) rfl ?_
      refine xo_rd (rd_move rfl) rfl ?_
      refine xo_gef rfl rfl rfl (ef_call rfl (XF.mono (xf_works) ?_))
      rintro v L' ⟨rfl, rfl⟩
      refine xo_rd (rd_pickt rfl rfl) rfl ?_
      refine xo_rd (rd_assign rfl) rfl ?_
      refine xo_nil ?_
      refine xq_seq ?_
      refine xc_ret ?_
    exact xq_ret1 (.inl rfl) Try.results3 rfl rfl
end Go.Proofs.Ytpheiklhjelkcaa.X
