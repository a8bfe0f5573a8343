/-
  Texts of my own, put together: walks and laws for this seat. No condition.
-/
import Derived.Test.YtpheiklhjelkcaaZ9
/-
  Chapter 19: the reference's Put: a walk of my own.
-/
namespace Go.Proofs.Ytpheiklhjelkcaa.X
open Go Go.RowKit
set_option linter.unusedVariables false
set_option linter.unusedSimpArgs false
def putW (most : Int) (ca bg : Bool) (l : List Ea) : List Ea × Nat :=
  if (framesA l : Int) ≤ most then (l, 0) else
    if victimA ca bg l < 0 then (l, 0) else
      match l[(victimA ca bg l).toNat]? with
      | some e => (joinAll (l.set (victimA ca bg l).toNat e.note), 1)
      | none => (l, 0)
def putR (most : Int) (ca bg : Bool) (l : List Ea) (e : Ea) : List Ea × Nat := putW most ca bg (joinAll (l ++ [e]))
theorem SlQ.capl {s : Nat} {e : TypeId} {p : Option Addr} {m c : Nat} {xs : List Value} {l : List Blk} (h : SlQ s e (.slice p m c) m xs l) : m ≤ c := by
  obtain ⟨p', c', hv, _, hle⟩ := h.opn
  simp only [Value.slice.injEq] at hv
  omega
theorem xq_5 {a b c d e : Blk} (l R : List Blk) : (l ++ (a :: b :: c :: d :: e :: R)).Perm (a :: b :: c :: d :: e :: (l ++ R)) := (by classical exact List.perm_iff_count.2 fun a => by simp only [List.append_eq, List.count_append, List.count_cons, List.count_nil, List.cons_append, List.nil_append, List.flatMap_append, List.flatMap_cons, List.flatMap_nil, List.append_nil]; omega)
theorem xq_4 {a b c d : Blk} (l R : List Blk) : (l ++ (a :: b :: c :: d :: R)).Perm (a :: b :: c :: d :: (l ++ R)) := (by classical exact List.perm_iff_count.2 fun a => by simp only [List.append_eq, List.count_append, List.count_cons, List.count_nil, List.cons_append, List.nil_append, List.flatMap_append, List.flatMap_cons, List.flatMap_nil, List.append_nil]; omega)
set_option maxHeartbeats 1600000 in
theorem xf_RPut {W : World} {L L0 : List Blk} (b : Int) (ca bg : Bool) (es : List En) (p : Option Addr) (c : Nat) (hr : Rs W L p (es.flatMap En.enc)) (hat : ∀ e, e ∈ es → e.i.f.At W L0) (hf : ∀ e, e ∈ es → e.i.f.Few) (hn : es.length + 1 ≤ 1000000) (e : En) (he : e.i.f.At W L0) (hef : e.i.f.Few) :
    XF Try.prog W 21 #[.agg (qcl b ca bg p es.length c).toArray, .agg e.enc.toArray] L (fun v L' => ∃ (es' : List En) (p' : Option Addr) (c' : Nat) (N : List Blk), v = .tuple #[.agg (qcl b ca bg p' es'.length c').toArray, .int .i64 (putR b ca bg (es.map En.a) e.a).2] ∧ es'.map En.a = (putR b ca bg (es.map En.a) e.a).1 ∧ Rs W N p' (es'.flatMap En.enc) ∧ (∀ e, e ∈ es' → e.i.f.At W L0 ∧ e.i.f.Few) ∧ es'.length ≤ es.length + 1 ∧ es'.length ≤ c' ∧ L' = N ++ L) := by
  obtain ⟨es1, hes1⟩ : ∃ es1, es1 = es ++ [e] := ⟨_, rfl⟩
  have hl1 : es1.length = es.length + 1 := by rw [hes1]; simp
  have hof : es1.flatMap En.enc = es.flatMap En.enc ++ e.enc := by rw [hes1, List.flatMap_append, List.flatMap_singleton]
  have hma : es1.map En.a = es.map En.a ++ [e.a] := by rw [hes1, List.map_append, List.map_singleton]
  have hat1 : ∀ z, z ∈ es1 → z.i.f.At W L0 := fun z hz => by
    rw [hes1] at hz
    rcases List.mem_append.1 hz with h | h
    · exact hat z h
    · rw [List.mem_singleton.1 h]; exact he
  have hf1 : ∀ z, z ∈ es1 → z.i.f.Few := fun z hz => by
    rw [hes1] at hz
    rcases List.mem_append.1 hz with h | h
    · exact hf z h
    · rw [List.mem_singleton.1 h]; exact hef
  unfold putR
  rw [← hma]
  refine xf_enter (args := [_, _]) Try.func21 rfl Try.ntmps21 rfl ?_
  focus
    refine xc_seq ?_
    refine xc_region ?_
    refine xo_ef rfl (ef_box rfl fun r2 => ?_)
    refine xo_ef rfl (ef_box rfl fun r3 => ?_)
    refine xo_ef rfl (ef_alloc fun r4 => ?_)
    refine xo_rd (rd_assign rfl) rfl ?_
    refine xo_nil ?_
    refine xq_seq ?_
    refine xc_seq ?_
    refine xc_region ?_
    refine xo_rd (rd_assign rfl) rfl ?_
    refine xo_nil ?_
    refine xq_seq ?_
    refine xc_seq ?_
    refine xc_region ?_
    refine xo_rd (rd_move rfl) rfl ?_
    refine xo_rd (rd_fieldAddr rfl) rfl ?_
    refine xo_rd (rd_load1 rfl (Cl.o2 rfl)) rfl ?_
    refine xo_ef rfl (ef_appendQS [_, _, _] L [] (news := es.flatMap En.enc) rfl rfl SlQ.nil rfl (hr.mono (by intro z hz; simp [hz])) (flat_len En.len _) (flat_one En.one _) (by decide) (by omega) (by omega) fun p1 c1 l1 hO1 hc1 => ?_)
    refine xo_rd (rd_assign rfl) rfl ?_
    refine xo_nil ?_
    refine xq_seq ?_
  rw [List.nil_append] at hO1
  focus
    refine xc_seq ?_
    refine xc_region ?_
    refine xo_rd (rd_move rfl) rfl ?_
    refine xo_rd (rd_loadB rfl Kn.o1 (by rfl)) rfl ?_
    refine xo_ef rfl (ef_sliceA (vs := e.enc) rfl rfl (by rw [En.len]; decide) (by rw [En.len]; decide) fun r15 => ?_)
    refine xo_ef rfl (ef_appendQS [_, _, _, _] L l1 (news := e.enc) rfl rfl hO1 rfl (Rs.fresh (List.Mem.head _)) rfl rfl (by decide) (by omega) (by omega) fun p2 c2 l2 hO2 hc2 => ?_)
    refine xo_ef rfl (ef_call rfl (XF.mono (xf_rjoined (L0 := L0) es1 p2 (0 + es.length + 1) c2 (by rw [hof]; exact hO2.rs (by intro z hz; simp [hz])) hat1 (by omega) hf1 (by omega)) ?_))
    rintro v L' ⟨ys, p3, c3, l3, rfl, hya, hyo, hyl, hO3, rfl⟩
    refine xo_perm (xq_4 l3 _) ?_
    refine xo_rd (rd_fieldAddr rfl) rfl ?_
    refine xo_ef rfl (ef_store1 [_, _, _] _ rfl rfl (by first | rfl | assumption) rfl rfl rfl ?_)
    refine xo_nil ?_
    refine xq_seq ?_
    refine xc_seq ?_
    refine xc_region ?_
    refine xo_rd (rd_assign rfl) rfl ?_
    refine xo_nil ?_
    refine xq_seq ?_
  rw [← hya]
  have hyn : ys.length ≤ 1000000 := by omega
  have hml : (ys.map En.a).length = ys.length := List.length_map _
  have hRy : ∀ L', (∀ z, z ∈ (l3 ++ (l2 ++ L) : List Blk) → z ∈ L') → Rs W L' p3 (ys.flatMap En.enc) := fun L' h => hO3.rs fun z hz => h z (List.mem_append_left _ hz)
  have hvl := vic_lt ca bg (ys.map En.a)
  rw [List.length_map] at hvl
  focus
    refine xc_seq ?_
    refine xc_seq ?_
    refine xc_drawML [0, 1, 0, 4, 10] [0, 1, 0, 4, 10] (by kernel_rfl) (by kernel_rfl) (by kernel_rfl) ?_
    refine xm_take 0 (m' := 1) rfl (by kernel_rfl) (by first | exact Sb.refl | exact Sb.nil | (repeat (first | exact Sb.nil | exact Sb.refl | exact Sb.app0 | apply Sb.keep | apply Sb.keepApp | apply Sb.cons | apply Sb.app))) (rd_loadB rfl Kn.o3 (by rfl)) rfl (by kernel_rfl) ?_
    refine xm_take 2 (m' := 5) rfl (by kernel_rfl) (by first | exact Sb.refl | exact Sb.nil | (repeat (first | exact Sb.nil | exact Sb.refl | exact Sb.app0 | apply Sb.keep | apply Sb.keepApp | apply Sb.cons | apply Sb.app))) (rd_fieldAddr rfl) rfl (by kernel_rfl) ?_
    refine xm_take 3 (m' := 13) rfl (by kernel_rfl) (by first | exact Sb.refl | exact Sb.nil | (repeat (first | exact Sb.nil | exact Sb.refl | exact Sb.app0 | apply Sb.keep | apply Sb.keepApp | apply Sb.cons | apply Sb.app))) (rd_load1 rfl (Cl.o3 rfl)) rfl (by kernel_rfl) ?_
    refine xm_one 1 (m' := 15) rfl (by kernel_rfl) rfl (by kernel_rfl) (ef_call rfl (XF.mono (xf_RFrames b ca bg ys p3 c3 (hRy _ (by intro z hz; simp [hz])) hyn) ?_))
    rintro v L' ⟨rfl, rfl⟩
    refine ⟨(by first | exact Sb.refl | exact Sb.nil | (repeat (first | exact Sb.nil | exact Sb.refl | exact Sb.app0 | apply Sb.keep | apply Sb.keepApp | apply Sb.cons | apply Sb.app))), ?_⟩
    refine xm_take 4 (m' := 31) rfl (by kernel_rfl) (by first | exact Sb.refl | exact Sb.nil | (repeat (first | exact Sb.nil | exact Sb.refl | exact Sb.app0 | apply Sb.keep | apply Sb.keepApp | apply Sb.cons | apply Sb.app))) (rd_gtr rfl rfl) rfl (by kernel_rfl) ?_
    refine xm_done (by kernel_rfl) ?_
    refine xq_seq ?_
    refine xc_dec rfl (fun hz1 => ?_) (fun hz1 => ?_)
    refine xc_region ?_
    refine xo_rd (rd_loadB rfl Kn.o3 (by rfl)) rfl ?_
    refine xo_ef rfl (ef_call rfl (XF.mono (xf_rvictim b ca bg ys p3 c3 (hRy _ (by intro z hz; simp [hz])) hyn) ?_))
    rintro v L' ⟨rfl, rfl⟩
    refine xo_rd (rd_assign rfl) rfl ?_
    refine xo_nil ?_
    refine xq_seq ?_
    refine xc_seq ?_
    refine xc_seq ?_
    refine xc_region ?_
    refine xo_rd (rd_move rfl) rfl ?_
    refine xo_rd (rd_lss rfl rfl) rfl ?_
    refine xo_nil ?_
    refine xq_seq ?_
    refine xc_dec rfl (fun hz2 => ?_) (fun hz2 => ?_)
    refine xc_seq ?_
    refine xc_region ?_
    refine xo_rd (rd_loadB rfl Kn.o3 (by rfl)) rfl ?_
    refine xo_ef rfl (ef_storeB [_] _ rfl rfl (by first | rfl | assumption) rfl rfl rfl ?_)
    refine xo_rd (rd_assign rfl) rfl ?_
    refine xo_nil ?_
    refine xq_seq ?_
    refine xc_ret ?_
    refine xq_then_ret ?_
    rotate_left
    refine xc_skip ?_
    refine xq_seq ?_
    rotate_left
    refine xc_skip ?_
    refine xq_seq ?_
    refine xc_seq ?_
    refine xc_seq ?_
    refine xc_region ?_
    refine xo_rd (rd_move rfl) rfl ?_
    refine xo_rd (rd_lss rfl rfl) rfl ?_
    refine xo_nil ?_
    refine xq_seq ?_
    refine xc_condt rfl ?_
    refine xc_seq ?_
    refine xc_region ?_
    refine xo_rd (rd_loadB rfl Kn.o3 (by rfl)) rfl ?_
    refine xo_ef rfl (ef_storeB [_] _ rfl rfl (by first | rfl | assumption) rfl rfl rfl ?_)
    refine xo_rd (rd_assign rfl) rfl ?_
    refine xo_nil ?_
    refine xq_seq ?_
    refine xc_ret ?_
    refine xq_then_ret ?_
    rotate_left
  · refine xq_retB2 (.inl rfl) Try.results21 rfl rfl Kn.o1 rfl (List.sublist_append_right [_, _, _, _] _) ⟨ys, p3, c3, l3 ++ l2, ?_, ?_, ?_, hyo, by omega, hO3.capl, ?_⟩
    · unfold putW; rw [if_neg (by omega), if_pos hz2]; rfl
    · unfold putW; rw [if_neg (by omega), if_pos hz2]
    · exact hO3.rs fun z hz => List.mem_append_left _ hz
    · exact (List.append_assoc l3 l2 L).symm
  rotate_left
  · refine xq_retB2 (.inl rfl) Try.results21 rfl rfl Kn.o1 rfl (List.sublist_append_right [_, _, _, _] _) ⟨ys, p3, c3, l3 ++ l2, ?_, ?_, ?_, hyo, by omega, hO3.capl, ?_⟩
    · unfold putW; rw [if_pos (by omega)]; rfl
    · unfold putW; rw [if_pos (by omega)]
    · exact hO3.rs fun z hz => List.mem_append_left _ hz
    · exact (List.append_assoc l3 l2 L).symm
  obtain ⟨k, hk⟩ : ∃ k : Nat, victimA ca bg (ys.map En.a) = k := ⟨(victimA ca bg (ys.map En.a)).toNat, by omega⟩
  have hkl : k < ys.length := by omega
  obtain ⟨bb, o, hp, hc⟩ := el_of (hRy _ fun z hz => hz) hkl
  subst hp
  have hc1 := hc k hkl
  have e1 : ys[k]? = some ys[k] := List.getElem?_eq_getElem hkl
  generalize ys[k] = e3 at *
  have hci : ∀ L', (∀ z, z ∈ (l3 ++ (l2 ++ L) : List Blk) → z ∈ L') → ∀ (j : Nat) (u : Value), e3.i.f.i.enc[j]? = some u → Cl W L' bb (o + (k : Int).toNat * 17 + 2 + 4 + 0 + j) u := fun L' h j u hj => by
    have h1 : e3.enc[6 + j]? = some u := by
      rw [← hj]
      show (([.int .u64 e3.g, .int .i64 e3.s, .bool e3.i.lo, .bool e3.i.kn, .int .u8 e3.i.ti, .bool e3.i.dr] : List Value) ++ (e3.i.f.i.enc ++ [.bool e3.i.f.k, .slice e3.i.f.p e3.i.f.ps.length e3.i.f.c]))[6 + j]? = _
      rw [List.getElem?_append_right (by show (6 : Nat) ≤ 6 + j; omega), show 6 + j - ([.int .u64 e3.g, .int .i64 e3.s, .bool e3.i.lo, .bool e3.i.kn, .int .u8 e3.i.ti, .bool e3.i.dr] : List Value).length = j by show 6 + j - 6 = j; omega]
      rw [List.getElem?_append_left (List.getElem?_eq_some_iff.1 hj).1]
    have := hc1 (6 + j) u h1
    rw [show o + k * 17 + (6 + j) = o + (k : Int).toNat * 17 + 2 + 4 + 0 + j by omega] at this
    exact this.mono h
  have hmid : (ys.flatMap En.enc).take (k * 17 + 2) ++ e3.note.i.enc ++ (ys.flatMap En.enc).drop (k * 17 + 2 + 15) = (ys.set k e3.note).flatMap En.enc :=
    flat_setM En.len 2 e3.note.i.enc (by rw [It.len]; decide) ys k e3 e3.note e1 rfl
  have hpv : putW b ca bg (ys.map En.a) = (joinAll ((ys.set k e3.note).map En.a), 1) := by
    unfold putW
    rw [if_neg (by omega), if_neg (by omega), hk, Int.toNat_natCast, List.getElem?_map, e1, List.map_set, En.note_a]
    rfl
  rw [hpv]
  rw [hk] at *
  focus
    refine xc_seq ?_
    refine xc_region ?_
    refine xo_rd (rd_fieldAddr rfl) rfl ?_
    refine xo_rd (rd_load1 rfl (Cl.o3 rfl)) rfl ?_
    refine xo_rd (rd_move rfl) rfl ?_
    refine xo_rd (rd_indexAddr rfl rfl (by omega) (by omega)) rfl ?_
    refine xo_rd (rd_fieldAddr rfl) rfl ?_
    refine xo_rd (rd_fieldAddr rfl) rfl ?_
    refine xo_rd (rd_fieldAddr rfl) rfl ?_
    refine xo_rd (rd_loadA (vs := e3.i.f.i.enc) rfl rfl (hci _ (by intro z hz; simp [hz]))) rfl ?_
    refine xo_ef rfl (ef_alloc fun r8 => ?_)
    refine xo_ef rfl (ef_storeB [] _ rfl rfl (by first | rfl | assumption) rfl rfl rfl ?_)
    refine xo_nil ?_
    refine xq_seq ?_
    refine xc_seq ?_
    refine xc_region ?_
    refine xo_rd (rd_fieldAddr rfl) rfl ?_
    refine xo_rd (rd_load1 rfl (Cl.o4 rfl)) rfl ?_
    refine xo_rd (rd_move rfl) rfl ?_
    refine xo_rd (rd_fieldAddr rfl) rfl ?_
    refine xo_rd (rd_load1 rfl (Cl.o0 rfl)) rfl ?_
    refine xo_rd (rd_fieldAddr rfl) rfl ?_
    refine xo_rd (rd_load1 rfl (Cl.o0 rfl)) rfl ?_
    refine xo_rd (rd_cast (v' := .agg e3.note.i.enc.toArray) (rd_build (T := 55) rfl rfl rfl) (by kernel_rfl)) rfl ?_
    refine xo_rd (rd_indexAddr rfl rfl (by omega) (by omega)) rfl ?_
    refine xo_rd (rd_fieldAddr rfl) rfl ?_
    refine xo_ef rfl (ef_storeQs (s := 15) (vs := e3.note.i.enc) [_, _, _, _, _] (l2 ++ L) (k * 17 + 2) hO3 rfl (by rw [Nat.add_assoc]; rfl) rfl rfl rfl rfl (by omega) rfl fun l4 hO4 => ?_)
    refine xo_nil ?_
    refine xq_seq ?_
  have hat2 : ∀ z, z ∈ ys.set k e3.note → z.i.f.At W L0 := fun z hz => by
    rcases List.mem_or_eq_of_mem_set hz with h | h
    · exact (hyo z h).1
    · rw [h]; exact zFr_at
  have hf2 : ∀ z, z ∈ ys.set k e3.note → z.i.f.Few := fun z hz => by
    rcases List.mem_or_eq_of_mem_set hz with h | h
    · exact (hyo z h).2
    · rw [h]; exact zFr_few
  focus
    refine xc_seq ?_
    refine xc_region ?_
    refine xo_rd (rd_fieldAddr rfl) rfl ?_
    refine xo_rd (rd_load1 rfl (Cl.o4 rfl)) rfl ?_
    refine xo_ef rfl (ef_call rfl (XF.mono (xf_rjoined (L0 := L0) (ys.set k e3.note) (some ⟨bb, o, none⟩) ys.length c3 (by rw [← hmid]; exact hO4.rs (by intro z hz; simp [hz])) hat2 List.length_set hf2 (by omega)) ?_))
    rintro v L' ⟨zs, p5, c5, l5, rfl, hza, hzo, hzl, hO5, rfl⟩
    refine xo_perm (xq_5 l5 _) ?_
    refine xo_rd (rd_fieldAddr rfl) rfl ?_
    refine xo_ef rfl (ef_store1 [_, _, _, _] _ rfl rfl (by first | rfl | assumption) rfl rfl rfl ?_)
    refine xo_nil ?_
    refine xq_seq ?_
    refine xc_seq ?_
    refine xc_region ?_
    refine xo_rd (rd_loadB rfl Kn.o4 (by rfl)) rfl ?_
    refine xo_ef rfl (ef_storeB [_, _] _ rfl rfl (by first | rfl | assumption) rfl rfl rfl ?_)
    refine xo_rd (rd_assign rfl) rfl ?_
    refine xo_nil ?_
    refine xq_seq ?_
    refine xc_ret ?_
  refine xq_retB2 (.inl rfl) Try.results21 rfl rfl Kn.o2 rfl (List.sublist_append_right [_, _, _, _, _] _) ⟨zs, p5, c5, l5 ++ (l4 ++ l2), rfl, hza, ?_, hzo, by omega, hO5.capl, ?_⟩
  · exact hO5.rs fun z hz => List.mem_append_left _ hz
  · rw [List.append_assoc, List.append_assoc]; rfl
end Go.Proofs.Ytpheiklhjelkcaa.X
/-
  Chapter 19: what a queue does is what the document says: no program in sight, no condition.
-/
namespace Go.Proofs.Ytpheiklhjelkcaa.X
open Go Go.RowKit
set_option linter.unusedVariables false
set_option linter.unusedSimpArgs false
/-- No two notes of one grant and slot beside one another. -/
def Stl : List Ea → Prop
  | [] => True
  | [_] => True
  | a :: b :: r => a.joins b = false ∧ Stl (b :: r)
theorem stl_app (a : Ea) (B : List Ea) : ∀ A : List Ea, Stl (A ++ a :: B) ↔ Stl (A ++ [a]) ∧ Stl (a :: B)
  | [] => by simp [Stl]
  | [x] => by simp [Stl]
  | x :: y :: r => by
    have := stl_app a B (y :: r)
    simp only [List.cons_append, Stl] at *
    rw [this]
    exact ⟨fun h => ⟨⟨h.1, h.2.1⟩, h.2.2⟩, fun h => ⟨h.1.1, h.1.2, h.2⟩⟩
theorem stl_pre (a : Ea) : ∀ A : List Ea, Stl (A ++ [a]) → Stl A
  | [], _ => trivial
  | [x], _ => trivial
  | x :: y :: r, h => by
    simp only [List.cons_append, Stl] at *
    exact ⟨h.1, stl_pre a (y :: r) h.2⟩
theorem stl_tail {a : Ea} : ∀ {B : List Ea}, Stl (a :: B) → Stl B
  | [], _ => trivial
  | _ :: _, h => h.2
structure Ea.Sim (a b : Ea) : Prop where
  lo : a.lo = b.lo
  g : a.g = b.g
  s : a.s = b.s
theorem Ea.Sim.l {a b : Ea} (h : a.Sim b) (y : Ea) : a.joins y = b.joins y := by unfold Ea.joins; rw [h.lo, h.g, h.s]
theorem Ea.Sim.r {a b : Ea} (h : a.Sim b) (y : Ea) : y.joins a = y.joins b := by unfold Ea.joins; rw [h.lo, h.g, h.s]
theorem Ea.Sim.trans {a b c : Ea} (h : a.Sim b) (h2 : b.Sim c) : a.Sim c := ⟨h.lo.trans h2.lo, h.g.trans h2.g, h.s.trans h2.s⟩
theorem joins_iff {a b : Ea} : a.joins b = true ↔ a.lo = true ∧ b.lo = true ∧ a.g = b.g ∧ a.s = b.s := by
  unfold Ea.joins
  simp only [Bool.and_eq_true, decide_eq_true_iff, and_assoc]
theorem joined_lo (a b : Ea) : (a.joined b).lo = true ∧ (a.joined b).g = a.g ∧ (a.joined b).s = a.s := by
  unfold Ea.joined; split <;> exact ⟨rfl, rfl, rfl⟩
theorem sim_l {a b : Ea} (h : a.joins b = true) : (a.joined b).Sim a := by
  obtain ⟨h1, h2, h3, h4⟩ := joins_iff.1 h
  obtain ⟨j1, j2, j3⟩ := joined_lo a b
  exact ⟨j1.trans h1.symm, j2, j3⟩
theorem sim_r {a b : Ea} (h : a.joins b = true) : (a.joined b).Sim b := by
  obtain ⟨h1, h2, h3, h4⟩ := joins_iff.1 h
  obtain ⟨j1, j2, j3⟩ := joined_lo a b
  exact ⟨j1.trans h2.symm, j2.trans h3, j3.trans h4⟩
theorem joined_assoc (a b c : Ea) : (a.joined b).joined c = a.joined (b.joined c) := by
  obtain ⟨ag, asl, al, ak, at', ad, af⟩ := a
  obtain ⟨bg, bs, bl, bk, bt, bd, bf⟩ := b
  obtain ⟨cg, cs, cl, ck, ct, cd, cf⟩ := c
  unfold Ea.joined
  cases ak <;> cases bk <;> cases ck <;> simp only [Bool.and_self, Bool.and_false, Bool.false_and, Bool.true_and, Bool.and_true]
  simp only [Ea.mk.injEq, true_and, and_true]
  refine ⟨?_, by cases ad <;> cases bd <;> rfl⟩
  repeat' split
  all_goals omega
theorem joinA_snoc (A : List Ea) (a x : Ea) : joinA (A ++ [a]) x = A ++ (if a.joins x = true then [a.joined x] else [a, x]) := by
  have h : (A ++ [a])[(A ++ [a]).length - 1]? = some a := by simp
  unfold joinA
  rw [h]
  dsimp only
  split
  · rw [List.length_append, List.length_singleton, Nat.add_sub_cancel, List.set_append_right _ _ (Nat.le_refl _), Nat.sub_self]; rfl
  · simp
theorem joinA_nil' (x : Ea) : joinA [] x = [x] := rfl
theorem snoc_cases (A : List Ea) : A = [] ∨ ∃ A0 a, A = A0 ++ [a] := by
  rcases List.eq_nil_or_concat A with h | ⟨A0, a, h⟩
  · exact .inl h
  · exact .inr ⟨A0, a, by simpa using h⟩
theorem stl_joinA {A : List Ea} {x : Ea} (h : Stl A) : Stl (joinA A x) := by
  rcases snoc_cases A with rfl | ⟨A0, a, rfl⟩
  · exact trivial
  · rw [joinA_snoc]
    split
    · rename_i hj
      rcases snoc_cases A0 with rfl | ⟨A1, z, rfl⟩
      · exact trivial
      · rw [List.append_assoc] at h ⊢
        have h2 := (stl_app z [a] A1).1 h
        exact (stl_app z [a.joined x] A1).2 ⟨h2.1, (by rw [(sim_l hj).r]; exact h2.2.1), trivial⟩
    · rename_i hj
      exact (stl_app a [x] A0).2 ⟨h, by simpa using hj, trivial⟩
/-- The last of what was joined is as the last that came. -/
theorem joinA_last (A : List Ea) (x : Ea) : ∃ O o, joinA A x = O ++ [o] ∧ (∀ y, o.joins y = x.joins y) := by
  rcases snoc_cases A with rfl | ⟨A0, a, rfl⟩
  · exact ⟨[], x, rfl, fun _ => rfl⟩
  · rw [joinA_snoc]
    split
    · rename_i hj
      exact ⟨A0, a.joined x, rfl, (sim_r hj).l⟩
    · exact ⟨A0 ++ [a], x, by simp, fun _ => rfl⟩
theorem fold_settled : ∀ (B : List Ea) (O : List Ea) (o b : Ea), (∀ y, o.joins y = b.joins y) → Stl (b :: B) → B.foldl joinA (O ++ [o]) = O ++ [o] ++ B
  | [], O, o, b, h, hs => by simp
  | c :: B, O, o, b, h, hs => by
    have hj : o.joins c = false := by rw [h]; exact hs.1
    rw [List.foldl_cons, joinA_snoc, hj, if_neg (by decide)]
    have := fold_settled B (O ++ [o]) c c (fun _ => rfl) hs.2
    rw [List.append_assoc] at this
    show List.foldl joinA (O ++ [o, c]) B = _
    rw [show O ++ [o, c] = O ++ ([o] ++ [c]) from rfl, this]
    simp
theorem joinAll_stl : ∀ l : List Ea, Stl l → joinAll l = l
  | [], _ => rfl
  | a :: r, h => by
    show List.foldl joinA (joinA [] a) r = _
    rw [joinA_nil']
    have := fold_settled r [] a a (fun _ => rfl) h
    simpa using this
theorem joinAll_mid (A : List Ea) (x : Ea) (B : List Ea) (h : Stl A) : joinAll (A ++ x :: B) = B.foldl joinA (joinA A x) := by
  unfold joinAll
  rw [List.foldl_append, List.foldl_cons]
  show B.foldl joinA (joinA (joinAll A) x) = _
  rw [joinAll_stl A h]
theorem stepS_at (A R : List Ea) (a b : Ea) : stepS (A ++ a :: b :: R) (A.length + 1) = A ++ (if a.joins b = true then a.joined b :: R else a :: b :: R) := by
  have h0 : (A ++ a :: b :: R)[A.length + 1 - 1]? = some a := by simp
  have h1 : (A ++ a :: b :: R)[A.length + 1]? = some b := by
    rw [List.getElem?_append_right (by omega), Nat.add_sub_cancel_left]; rfl
  unfold stepS
  rw [h0, h1]
  dsimp only
  split
  · rw [Nat.add_sub_cancel, List.set_append_right _ _ (Nat.le_refl _), Nat.sub_self, List.set_cons_zero, List.eraseIdx_append_of_length_le (by omega), Nat.add_sub_cancel_left]; rfl
  · rfl
theorem settle_put (l : List Ea) (e : Ea) : settleA (l ++ [e]) l.length = joinA l e := by
  rcases snoc_cases l with rfl | ⟨A, a, rfl⟩
  · rfl
  · unfold settleA
    rw [show min ((A ++ [a]).length + 1) (((A ++ [a]) ++ [e]).length - 1) = A.length + 1 by simp, show max (A ++ [a]).length 1 = A.length + 1 by simp]
    rw [setl, if_pos (Nat.le_refl _), List.append_assoc]
    show setl (A.length + 1) A.length (stepS (A ++ a :: e :: []) (A.length + 1)) = _
    rw [stepS_at, setl_stop (by omega), joinA_snoc]
theorem setl_at (A : List Ea) (c : Ea) (R : List Ea) : setl (max A.length 1) A.length (A ++ c :: R) = joinA A c ++ R := by
  rcases snoc_cases A with rfl | ⟨A0, a, rfl⟩
  · rfl
  · rw [show (A0 ++ [a]).length = A0.length + 1 by simp, show max (A0.length + 1) 1 = A0.length + 1 by omega, setl, if_pos (Nat.le_refl _), List.append_assoc]
    show setl (A0.length + 1) A0.length (stepS (A0 ++ a :: c :: R) (A0.length + 1)) = _
    rw [stepS_at, setl_stop (by omega), joinA_snoc]
    split <;> simp
theorem settle_vic (A : List Ea) (x : Ea) (B : List Ea) (h : Stl A) (hB : Stl B) : settleA (A ++ x :: B) A.length = joinAll (A ++ x :: B) := by
  rw [joinAll_mid A x B h]
  unfold settleA
  cases B with
  | nil =>
    rw [show min (A.length + 1) ((A ++ [x]).length - 1) = A.length by simp, setl_at]
    simp
  | cons b B =>
    rw [show min (A.length + 1) ((A ++ x :: b :: B).length - 1) = A.length + 1 by simp, setl, if_pos (by omega), stepS_at]
    obtain ⟨O, o, hO, ho⟩ := joinA_last (joinA A x) b
    rw [List.foldl_cons, hO, fold_settled B O o b ho hB, ← hO]
    split
    · rename_i hj
      rw [setl_at]
      congr 1
      rcases snoc_cases A with rfl | ⟨A0, a, rfl⟩
      · rw [joinA_nil', joinA_nil']
        have := joinA_snoc [] x b
        rw [hj, if_pos rfl] at this
        exact this.symm
      · by_cases ha : a.joins x = true
        · have hc : a.joins (x.joined b) = true := by rw [(sim_l hj).r]; exact ha
          have hd : (a.joined x).joins b = true := by rw [(sim_r ha).l]; exact hj
          rw [joinA_snoc, hc, if_pos rfl, joinA_snoc, ha, if_pos rfl, joinA_snoc, hd, if_pos rfl, joined_assoc]
        · have hc : a.joins (x.joined b) = false := by rw [(sim_l hj).r]; simpa using ha
          rw [joinA_snoc, hc, if_neg (by decide), joinA_snoc, if_neg ha]
          rw [show A0 ++ [a, x] = (A0 ++ [a]) ++ [x] by simp, joinA_snoc, hj, if_pos rfl]
          simp
    · rename_i hj
      rw [setl_at]
      obtain ⟨O2, o2, hO2, ho2⟩ := joinA_last A x
      rw [hO2, joinA_snoc, ho2, if_neg hj]
      simp
theorem stl_vic (A : List Ea) (x : Ea) (B : List Ea) (h : Stl A) (hB : Stl B) : Stl (joinAll (A ++ x :: B)) := by
  rw [joinAll_mid A x B h]
  cases B with
  | nil => exact stl_joinA h
  | cons b B =>
    obtain ⟨O, o, hO, ho⟩ := joinA_last (joinA A x) b
    have hs : Stl (joinA (joinA A x) b) := stl_joinA (stl_joinA h)
    rw [List.foldl_cons, hO, fold_settled B O o b ho hB]
    rw [hO] at hs
    rw [List.append_assoc]
    refine (stl_app o B O).2 ⟨hs, ?_⟩
    cases B with
    | nil => trivial
    | cons c B => exact ⟨by rw [ho]; exact hB.1, hB.2⟩
theorem split_at {l : List Ea} {v : Nat} {x y : Ea} (h : l[v]? = some x) : ∃ A B, l = A ++ x :: B ∧ A.length = v ∧ l.set v y = A ++ y :: B := by
  have hv := (List.getElem?_eq_some_iff.1 h).1
  have hx := (List.getElem?_eq_some_iff.1 h).2
  refine ⟨l.take v, l.drop (v + 1), ?_, by rw [List.length_take]; omega, ?_⟩
  · rw [← hx, ← List.drop_eq_getElem_cons hv, List.take_append_drop]
  · rw [List.set_eq_take_append_cons_drop, if_pos hv]
theorem putV_W (most : Int) (ca bg : Bool) (l : List Ea) (h : Stl l) : putV most ca bg l = putW most ca bg l ∧ Stl (putV most ca bg l).1 := by
  unfold putV putW
  split
  · exact ⟨rfl, h⟩
  · split
    · exact ⟨rfl, h⟩
    · cases hx : l[(victimA ca bg l).toNat]? with
      | some x =>
        dsimp only
        obtain ⟨A, B, hl, hA, hs⟩ := split_at (y := x.note) hx
        have h2 := (stl_app x B A).1 (hl ▸ h)
        have hsA := stl_pre x A h2.1
        have hsB := stl_tail h2.2
        rw [hs, ← hA, settle_vic A x.note B hsA hsB]
        exact ⟨rfl, stl_vic A x.note B hsA hsB⟩
      | none => exact ⟨rfl, h⟩
/-- Put is the document's, and keeps notes apart. -/
theorem put_law (most : Int) (ca bg : Bool) (l : List Ea) (e : Ea) (h : Stl l) : putA most ca bg l e = putR most ca bg l e ∧ Stl (putA most ca bg l e).1 := by
  unfold putA putR
  rw [settle_put, show joinAll (l ++ [e]) = joinA l e by rw [joinAll_mid l e [] h]; rfl]
  exact putV_W most ca bg _ (stl_joinA h)
theorem stl_shift {a : Ea} {l : List Ea} (h : Stl (a :: l)) : Stl l := stl_tail h
end Go.Proofs.Ytpheiklhjelkcaa.X
