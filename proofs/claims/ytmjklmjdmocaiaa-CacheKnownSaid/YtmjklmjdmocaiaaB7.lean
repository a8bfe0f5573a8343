/-
  CacheKnown: the walk of the law.
-/
import Derived.Test.YtmjklmjdmocaiaaB6
import Derived.Test.YtmjklmjdmocaiaaB2
namespace Go.Proofs.Ytmjklmjdmocaiaa.X
open Go Go.RowKit
set_option linter.unusedVariables false
set_option linter.unusedSimpArgs false
/-- A slice whose elements lie in the base world or in blocks of one's own. -/
structure SlV.GoodL {α : Type} (W : World) (L : List Blk) (enc : α → List Value) (G : α → Prop) (v : SlV α) : Prop where
  len : v.l.length = v.n
  rs : Rs W L v.p (v.l.flatMap enc)
  all : ∀ x, x ∈ v.l → G x
  cap : v.n ≤ v.c
  max : v.c ≤ 9223372036854775807
theorem SlV.GoodL.over {α : Type} {W w : World} {L : List Blk} {enc : α → List Value} {G : α → Prop} {v : SlV α} (h : v.GoodL W L enc G) (hw : Hp W w L) : v.Good w enc G := ⟨h.len, h.rs.over hw, h.all, h.cap, h.max⟩
theorem SlV.GoodL.mono {α : Type} {W : World} {L L' : List Blk} {enc : α → List Value} {G : α → Prop} {v : SlV α} (h : v.GoodL W L enc G) (hm : ∀ z, z ∈ L → z ∈ L') : v.GoodL W L' enc G := ⟨h.len, h.rs.mono hm, h.all, h.cap, h.max⟩
def ActL (W : World) (L : List Blk) (a : Act) : Prop := InK .i64 a.f0 ∧ InK .u16 a.f1 ∧ a.f2.GoodL W L (fun n : Int => [Value.int .u8 n]) (InK .u8) ∧ InK .u64 a.f3 ∧ a.f4.GoodL W L (fun n : Int => [Value.int .u16 n]) (InK .u16)
theorem ActL.over {W w : World} {L : List Blk} {a : Act} (h : ActL W L a) (hw : Hp W w L) : a.Good w := ⟨h.1, h.2.1, h.2.2.1.over hw, h.2.2.2.1, h.2.2.2.2.over hw⟩
theorem ActL.mono {W : World} {L L' : List Blk} {a : Act} (h : ActL W L a) (hm : ∀ z, z ∈ L → z ∈ L') : ActL W L' a := ⟨h.1, h.2.1, h.2.2.1.mono hm, h.2.2.2.1, h.2.2.2.2.mono hm⟩
theorem SlV.goodL_nil {α : Type} {W : World} {L : List Blk} {enc : α → List Value} {G : α → Prop} : (⟨none, 0, 0, []⟩ : SlV α).GoodL W L enc G := ⟨rfl, Rs.nil, (fun _ h => by cases h), Nat.le_refl _, Nat.zero_le _⟩
theorem SlV.goodL_ints {W : World} {L : List Blk} {k : IntKind} {r : Nat} {l : List Int} {T : TypeId} (h : (r, Obj.cells (ints k l).toArray T (0, 0)) ∈ L) (ha : ∀ x, x ∈ l → InK k x) (hl : l.length ≤ 1000) : (⟨some ⟨r, 0, none⟩, l.length, l.length, l⟩ : SlV Int).GoodL W L (fun n : Int => [Value.int k n]) (InK k) :=
  ⟨rfl, by dsimp only; rw [ints_flat]; exact Rs.fresh h, ha, Nat.le_refl _, by dsimp only; omega⟩
structure KnS where
  i : Nat
  k : Int
  xs : List Act
  v : Value
  l : List Blk
  ns : List Int
  vn : Value
  ln : List Blk
  J : List Blk
structure KnI (W : World) (s : KnS) : Prop where
  i : s.i ≤ 20
  k0 : 0 ≤ s.k
  k1 : s.k ≤ 10007
  xl : s.xs.length = s.i
  o : SlO 5 34 s.v s.i (s.xs.flatMap Act.enc) s.l
  nl : s.ns.length = s.i
  on : SlO 1 30 s.vn s.i (ints .u16 s.ns) s.ln
  all : ∀ x, x ∈ s.xs → ActL W s.J x
theorem inW8 (k : Int) : InK .u8 (IntKind.u8.wrap k) := by rw [inK_u8, IntKind.wrap_u8]; omega
set_option maxHeartbeats 8000000 in
theorem xf_CacheKnown {W : World} : XF Try.prog W 7 #[] [] (fun v L' => v = .bool true) := by
  refine xf_enter (args := []) Try.func7 rfl Try.ntmps7 rfl ?_
  focus
    refine xc_seq ?_
    refine xc_region ?_
    refine xo_rd (rd_assign rfl) rfl ?_
    refine xo_nil ?_
    refine xq_seq ?_
    refine xc_seq ?_
    refine xc_seq ?_
    refine xc_region ?_
    refine xo_rd (rd_assign rfl) rfl ?_
    refine xo_nil ?_
    refine xq_seq ?_
    refine xc_block ?_
  refine xc_loopI (ι := Nat) (fun n => n ≤ 120) (fun n => 120 - n) (fun _ => []) (fun n => [(1, .int .i64 n)]) 0 (Nat.zero_le _) rfl (by repeat (first | exact keep_nil | refine keep_cons rfl ?_)) ?_
  intro n hn
  focus
    refine xc_seq ?_
    refine xc_seq ?_
    refine xc_region ?_
    refine xo_rd (rd_move rfl) rfl ?_
    refine xo_rd (rd_lss rfl rfl) rfl ?_
    refine xo_nil ?_
    refine xq_seq ?_
    refine xc_dec rfl (fun hn1 => ?_) (fun hn1 => ?_)
    refine xc_skip ?_
    refine xq_seq ?_
    refine xc_seq ?_
    refine xc_block ?_
    refine xc_seq ?_
    refine xc_region ?_
    refine xo_rd (rd_assign rfl) rfl ?_
    refine xo_nil ?_
    refine xq_seq ?_
    refine xc_seq ?_
    refine xc_region ?_
    refine xo_rd (rd_assign rfl) rfl ?_
    refine xo_nil ?_
    refine xq_seq ?_
    refine xc_seq ?_
    refine xc_region ?_
    refine xo_rd (rd_move rfl) rfl ?_
    refine xo_rd (rd_assign rfl) rfl ?_
    refine xo_nil ?_
    refine xq_seq ?_
    refine xc_seq ?_
    refine xc_seq ?_
    refine xc_region ?_
    refine xo_rd (rd_assign rfl) rfl ?_
    refine xo_nil ?_
    refine xq_seq ?_
    refine xc_block ?_
    rotate_left
    refine xc_exit ?_
    refine xq_then_exit ?_
    refine xq_then_exit ?_
    refine xq_block_hit ?_
    refine xq_seq ?_
    refine xc_seq ?_
    refine xc_region ?_
    refine xo_rd (rd_build rfl rfl rfl) rfl ?_
    rotate_left
  · refine xc_loopI (ι := KnS) (KnI W) (fun s => 20 - s.i) (fun s => s.l ++ (s.ln ++ s.J)) (fun s => [(1, .int .i64 n), (2, s.v), (3, s.vn), (4, .int .i64 s.k), (5, .int .i64 s.i)]) ⟨0, n, [], .slice none 0 0, [], [], .slice none 0 0, [], []⟩ ⟨Nat.zero_le _, by dsimp only; omega, by dsimp only; omega, rfl, SlO.nil, rfl, SlO.nil, (fun _ h => by cases h)⟩ rfl (by repeat (first | exact keep_nil | refine keep_cons rfl ?_)) ?_
    rintro ⟨i, k, xs, v, l, ns, vn, ln, J⟩ ⟨hi, hk0, hk1, hxl, hO, hnl, hOn, hall⟩
    dsimp only at *
    obtain ⟨pv, cv, rfl, hO, _⟩ := hO.opn
    obtain ⟨pn, cn, rfl, hOn, _⟩ := hOn.opn
    focus
      refine xc_seq ?_
      refine xc_seq ?_
      refine xc_region ?_
      refine xo_rd (rd_move rfl) rfl ?_
      refine xo_rd (rd_lss rfl rfl) rfl ?_
      refine xo_nil ?_
      refine xq_seq ?_
      refine xc_dec rfl (fun hi1 => ?_) (fun hi1 => ?_)
      refine xc_skip ?_
      refine xq_seq ?_
      refine xc_seq ?_
      refine xc_block ?_
      refine xc_seq ?_
      refine xc_region ?_
      refine xo_rd (rd_move rfl) rfl ?_
      refine xo_rd (rd_move rfl) rfl ?_
      refine xo_rd (rd_move rfl) rfl ?_
      refine xo_rd (rd_addn rfl rfl (by omega) (by omega)) rfl ?_
      refine xo_rd (rd_remn rfl rfl (by omega) (by omega)) rfl ?_
      refine xo_rd (rd_move rfl) rfl ?_
      refine xo_rd (rd_remn rfl rfl (by omega) (by omega)) rfl ?_
      refine xo_rd (rd_convn rfl (by omega) (by omega)) rfl ?_
      refine xo_rd (rd_move rfl) rfl ?_
      refine xo_rd (rd_conv rfl) rfl ?_
      refine xo_rd (rd_move rfl) rfl ?_
      refine xo_rd (rd_convn rfl (by omega) (by omega)) rfl ?_
      refine xo_ef rfl (ef_buildL (T := 31) (s := 1) (cells := (ints .u8 [IntKind.u8.wrap k, (i : Int)]).toArray) rfl (by decide) (by decide) (by kernel_rfl) fun r28 => ?_)
      refine xo_rd (rd_move rfl) rfl ?_
      refine xo_rd (rd_move rfl) rfl ?_
      refine xo_rd (rd_remn rfl rfl (by omega) (by omega)) rfl ?_
      refine xo_rd (rd_addn rfl rfl (by omega) (by omega)) rfl ?_
      refine xo_rd (rd_convn rfl (by omega) (by omega)) rfl ?_
      refine xo_rd (rd_move rfl) rfl ?_
      refine xo_rd (rd_remn rfl rfl (by omega) (by omega)) rfl ?_
      refine xo_rd (rd_convn rfl (by omega) (by omega)) rfl ?_
      refine xo_rd (rd_move rfl) rfl ?_
      refine xo_rd (rd_remn rfl rfl (by omega) (by omega)) rfl ?_
      refine xo_rd (rd_convn rfl (by omega) (by omega)) rfl ?_
      refine xo_rd (rd_move rfl) rfl ?_
      refine xo_rd (rd_remn rfl rfl (by omega) (by omega)) rfl ?_
      refine xo_rd (rd_convn rfl (by omega) (by omega)) rfl ?_
      refine xo_ef rfl (ef_buildL (T := 32) (s := 1) (cells := (ints .u16 [k % 5, (i : Int) % 5, k % 3]).toArray) rfl (by decide) (by decide) (by kernel_rfl) fun r43 => ?_)
      refine xo_rd (rd_build rfl rfl rfl) rfl ?_
      refine xo_ef rfl (ef_sliceA (vs := (⟨(k + i) % 4, k % 5, ⟨some ⟨r28, 0, none⟩, 2, 2, [IntKind.u8.wrap k, (i : Int)]⟩, i + k % 3, ⟨some ⟨r43, 0, none⟩, 3, 3, [k % 5, (i : Int) % 5, k % 3]⟩⟩ : Act).enc) rfl rfl (by rw [Act.len]; decide) (by rw [Act.len]; decide) fun r45 => ?_)
      rotate_left
      refine xc_exit ?_
      refine xq_then_exit ?_
      refine xq_then_exit ?_
      refine xq_block_hit ?_
      refine xq_seq ?_
      refine xc_seq ?_
      refine xc_region ?_
      refine xo_rd (rd_move rfl) rfl ?_
      refine xo_rd (rd_remn rfl rfl (by omega) (by omega)) rfl ?_
      refine xo_rd (rd_addn rfl rfl (by omega) (by omega)) rfl ?_
      refine xo_rd (rd_move rfl) rfl ?_
      refine xo_rd (rd_remn rfl rfl (by omega) (by omega)) rfl ?_
      refine xo_rd (rd_convn rfl (by omega) (by omega)) rfl ?_
      refine xo_rd (rd_move rfl) rfl ?_
      rotate_left
    · refine xo_ef rfl (ef_append [_, _, _] _ l rfl rfl hO rfl (Rs.fresh (List.Mem.head _)) rfl rfl (by decide) (by omega) (by omega) fun v' l' hO' => ?_)
      refine xo_tail ?_
      refine xo_gen2 fun q1 e1 q2 e2 => ?_
      focus
        refine xo_rd (rd_assign rfl) rfl ?_
        refine xo_nil ?_
        refine xq_seq ?_
        refine xc_seq ?_
        refine xc_region ?_
        refine xo_rd (rd_move rfl) rfl ?_
        refine xo_rd (rd_move rfl) rfl ?_
        refine xo_rd (rd_remn rfl rfl (by omega) (by omega)) rfl ?_
        refine xo_rd (rd_convn rfl (by omega) (by omega)) rfl ?_
        refine xo_ef rfl (ef_slice1 rfl rfl rfl fun r51 => ?_)
      refine xo_ef rfl (ef_append (_ :: q1 :: q2 :: l') J ln rfl rfl hOn rfl (Rs.fresh (List.Mem.head _)) rfl rfl (by decide) (by omega) (by omega) fun v2 ln' hOn' => ?_)
      refine xo_tail ?_
      focus
        refine xo_rd (rd_assign rfl) rfl ?_
        refine xo_nil ?_
        refine xq_seq ?_
        refine xc_region ?_
        refine xo_rd (rd_move rfl) rfl ?_
        refine xo_rd (rd_muln rfl rfl (by omega) (by omega)) rfl ?_
        refine xo_rd (rd_move rfl) rfl ?_
        refine xo_rd (rd_muln rfl rfl (by omega) (by omega)) rfl ?_
        refine xo_rd (rd_addn rfl rfl (by omega) (by omega)) rfl ?_
        refine xo_rd (rd_addn rfl rfl (by omega) (by omega)) rfl ?_
        refine xo_rd (rd_remn rfl rfl (by omega) (by omega)) rfl ?_
        refine xo_rd (rd_assign rfl) rfl ?_
        refine xo_nil ?_
        refine xq_block ?_
        refine xq_seq ?_
        refine xc_region ?_
        refine xo_rd (rd_move rfl) rfl ?_
        refine xo_rd (rd_addn rfl rfl (by omega) (by omega)) rfl ?_
        refine xo_rd (rd_assign rfl) rfl ?_
        refine xo_nil ?_
      refine xq_perm (L' := l' ++ (ln' ++ (q1 :: q2 :: J))) (by classical exact List.perm_iff_count.2 fun a => by simp only [List.append_eq, List.count_append, List.count_cons, List.count_nil, List.cons_append, List.nil_append, List.flatMap_append, List.flatMap_cons, List.flatMap_nil, List.append_nil]; omega) ?_
      refine xq_roundI (⟨i + 1, (k * 7 + 5 * i + 3) % 10007, xs ++ [⟨(k + i) % 4, k % 5, ⟨some ⟨r28, 0, none⟩, 2, 2, [IntKind.u8.wrap k, (i : Int)]⟩, i + k % 3, ⟨some ⟨r43, 0, none⟩, 3, 3, [k % 5, (i : Int) % 5, k % 3]⟩⟩], v', l', ns ++ [k % 7], v2, ln', q1 :: q2 :: J⟩ : KnS) ⟨by dsimp only; omega, by dsimp only; omega, by dsimp only; omega, by simp [hxl], by dsimp only; rw [List.flatMap_append]; simpa using hO', by simp [hnl], by dsimp only; rw [ints_app]; exact hOn', fun x hx => ?_⟩ (by dsimp only; omega) rfl (by repeat (first | exact keep_nil | refine keep_cons rfl ?_))
      rcases List.mem_append.1 hx with hx | hx
      · exact (hall x hx).mono fun z hz => by simp [hz]
      · rw [List.mem_singleton] at hx
        subst hx
        refine ⟨by rw [inK_i64]; dsimp only; omega, by rw [inK_u16]; dsimp only; omega, SlV.goodL_ints (k := .u8) (r := r28) (l := [IntKind.u8.wrap k, (i : Int)]) (T := 5) (by dsimp only; rw [e2]; exact List.mem_cons_of_mem _ (List.Mem.head _)) ?_ (by simp), by rw [inK_u64]; dsimp only; omega, SlV.goodL_ints (k := .u16) (r := r43) (l := [k % 5, (i : Int) % 5, k % 3]) (T := 30) (by dsimp only; rw [e1]; exact List.Mem.head _) ?_ (by simp)⟩
        · intro x hx
          simp only [List.mem_cons, List.not_mem_nil, or_false] at hx
          rcases hx with rfl | rfl
          · exact inW8 k
          · rw [inK_u8]; omega
        · intro x hx
          simp only [List.mem_cons, List.not_mem_nil, or_false] at hx
          rcases hx with rfl | rfl | rfl <;> rw [inK_u16] <;> omega
    · skip
      have hL : ∀ x, x ∈ xs → ActL W (l ++ (ln ++ J)) x := fun x hx => (hall x hx).mono (by intro z hz; simp [hz])
      have hrx : Rs W (l ++ (ln ++ J)) pv (xs.flatMap Act.enc) := hO.rs (by intro z hz; simp [hz])
      have hrn : Rs W (l ++ (ln ++ J)) pn (ints .u16 ns) := hOn.rs (by intro z hz; simp [hz])
      focus
        refine xo_ef rfl (ef_call rfl (XF.mono (xf_over fun w hw => xf_CachePlays _ _ _ _ _ xs hxl (hrx.over hw) (fun x hx => (hL x hx).over hw) (by omega) (by omega) (by omega)) ?_))
        rintro v L' ⟨rfl, rfl⟩
        refine xo_rd (rd_not rfl) rfl ?_
        refine xo_rd (rd_move rfl) rfl ?_
        refine xo_grd rfl rfl (rd_move rfl) rfl ?_
        refine xo_grd rfl rfl (rd_remn rfl rfl (by omega) (by omega)) rfl ?_
        refine xo_grd rfl rfl (rd_addn rfl rfl (by omega) (by omega)) rfl ?_
        refine xo_grd rfl rfl (rd_move rfl) rfl ?_
        refine xo_grd rfl rfl (rd_remn rfl rfl (by omega) (by omega)) rfl ?_
        refine xo_grd rfl rfl (rd_convn rfl (by omega) (by omega)) rfl ?_
        refine xo_grd rfl rfl (rd_move rfl) rfl ?_
        refine xo_gef rfl rfl rfl (ef_call rfl (XF.mono (xf_over fun w hw => xf_CacheTells _ _ _ _ _ xs hxl (hrx.over hw) (fun x hx => (hL x hx).over hw) (by omega) (by omega) (by omega)) ?_))
        rintro v L' ⟨rfl, rfl⟩
        refine xo_grd rfl rfl (rd_not rfl) rfl ?_
        refine xo_rd (rd_pickf rfl rfl) rfl ?_
        refine xo_rd (rd_move rfl) rfl ?_
        refine xo_grd rfl rfl (rd_move rfl) rfl ?_
        refine xo_grd rfl rfl (rd_remn rfl rfl (by omega) (by omega)) rfl ?_
        refine xo_grd rfl rfl (rd_move rfl) rfl ?_
        refine xo_gef rfl rfl rfl (ef_call rfl (XF.mono (xf_over fun w hw => xf_CacheLast _ _ _ _ ns hnl (hrn.over hw)) ?_))
        rintro v L' ⟨rfl, rfl⟩
        refine xo_grd rfl rfl (rd_not rfl) rfl ?_
        refine xo_rd (rd_pickf rfl rfl) rfl ?_
        refine xo_nil ?_
        refine xq_seq ?_
        refine xc_condf rfl ?_
        refine xc_skip ?_
        refine xq_block ?_
        refine xq_seq ?_
        refine xc_region ?_
        refine xo_rd (rd_move rfl) rfl ?_
        refine xo_rd (rd_addn rfl rfl (by omega) (by omega)) rfl ?_
        refine xo_rd (rd_assign rfl) rfl ?_
        refine xo_nil ?_
      refine xq_sub (L' := []) (List.nil_sublist _) ?_
      exact xq_roundI (n + 1) (by omega) (by omega) rfl (by repeat (first | exact keep_nil | refine keep_cons rfl ?_))
  · refine xo_ef rfl (ef_buildL (T := 32) (s := 1) (cells := (ints .u16 [65535, 0]).toArray) rfl (by decide) (by decide) (by kernel_rfl) fun r88 => ?_)
    focus
      refine xo_rd (rd_build rfl rfl rfl) rfl ?_
      refine xo_ef rfl (ef_slice1 rfl rfl rfl fun r90 => ?_)
      refine xo_rd (rd_build rfl rfl rfl) rfl ?_
    refine xo_ef rfl (ef_buildL (T := 23) (s := 5) (cells := ([⟨0, 65535, ⟨none, 0, 0, []⟩, 0, ⟨none, 0, 0, []⟩⟩, ⟨3, 65535, ⟨none, 0, 0, []⟩, 18446744073709551615, ⟨some ⟨r88, 0, none⟩, 2, 2, [65535, 0]⟩⟩, ⟨3, 65535, ⟨none, 0, 0, []⟩, 0, ⟨some ⟨r90, 0, none⟩, 1, 1, [65535]⟩⟩].flatMap Act.enc).toArray) rfl (by decide) (by decide) (by kernel_rfl) fun r92 => ?_)
    obtain ⟨xs, hxs⟩ : ∃ xs : List Act, xs = [⟨0, 65535, ⟨none, 0, 0, []⟩, 0, ⟨none, 0, 0, []⟩⟩, ⟨3, 65535, ⟨none, 0, 0, []⟩, 18446744073709551615, ⟨some ⟨r88, 0, none⟩, 2, 2, [65535, 0]⟩⟩, ⟨3, 65535, ⟨none, 0, 0, []⟩, 0, ⟨some ⟨r90, 0, none⟩, 1, 1, [65535]⟩⟩] := ⟨_, rfl⟩
    have hxl : xs.length = 3 := by rw [hxs]; rfl
    rw [← hxs]
    have hL : ∀ x, x ∈ xs → ActL W ((r92, .cells (xs.flatMap Act.enc).toArray 34 (0, 0)) :: (r90, .cells (ints .u16 [65535]).toArray 30 (0, 0)) :: (r88, .cells (ints .u16 [65535, 0]).toArray 30 (0, 0)) :: []) x := fun x hx => by
      have i0 : InK .i64 0 := by rw [inK_i64]; omega
      have i3 : InK .i64 3 := by rw [inK_i64]; omega
      have n1 : InK .u16 65535 := by rw [inK_u16]; omega
      have n0 : InK .u16 0 := by rw [inK_u16]; omega
      have t0 : InK .u64 0 := by rw [inK_u64]; omega
      have t1 : InK .u64 18446744073709551615 := by rw [inK_u64]; omega
      rw [hxs] at hx
      simp only [List.mem_cons, List.not_mem_nil, or_false] at hx
      rcases hx with rfl | rfl | rfl
      · exact ⟨i0, n1, SlV.goodL_nil, t0, SlV.goodL_nil⟩
      · refine ⟨i3, n1, SlV.goodL_nil, t1, SlV.goodL_ints (k := .u16) (r := r88) (l := [65535, 0]) (T := 30) (by simp) ?_ (by simp)⟩
        intro x hx
        simp only [List.mem_cons, List.not_mem_nil, or_false] at hx
        rcases hx with rfl | rfl
        · exact n1
        · exact n0
      · refine ⟨i3, n1, SlV.goodL_nil, t0, SlV.goodL_ints (k := .u16) (r := r90) (l := [65535]) (T := 30) (by simp) ?_ (by simp)⟩
        intro x hx
        simp only [List.mem_cons, List.not_mem_nil, or_false] at hx
        subst hx
        exact n1
    have hrx : Rs W ((r92, .cells (xs.flatMap Act.enc).toArray 34 (0, 0)) :: (r90, .cells (ints .u16 [65535]).toArray 30 (0, 0)) :: (r88, .cells (ints .u16 [65535, 0]).toArray 30 (0, 0)) :: []) (some ⟨r92, 0, none⟩) (xs.flatMap Act.enc) := Rs.fresh (List.Mem.head _)
    clear hxs
    focus
      refine xo_rd (rd_assign rfl) rfl ?_
      refine xo_nil ?_
      refine xq_seq ?_
      refine xc_seq ?_
      refine xc_region ?_
      refine xo_rd (rd_move rfl) rfl ?_
      refine xo_ef rfl (ef_call rfl (XF.mono (xf_over fun w hw => xf_CachePlays _ _ _ 3 3 xs hxl (hrx.over hw) (fun x hx => (hL x hx).over hw) (by omega) (by omega) (by omega)) ?_))
      rintro v L' ⟨rfl, rfl⟩
      refine xo_rd (rd_move rfl) rfl ?_
      refine xo_grd rfl rfl (rd_move rfl) rfl ?_
      refine xo_gef rfl rfl rfl (ef_call rfl (XF.mono (xf_over fun w hw => xf_CachePlays _ _ _ 3 3 xs hxl (hrx.over hw) (fun x hx => (hL x hx).over hw) (by omega) (by omega) (by omega)) ?_))
      rintro v L' ⟨rfl, rfl⟩
      refine xo_rd (rd_pickt rfl rfl) rfl ?_
      refine xo_rd (rd_move rfl) rfl ?_
      refine xo_grd rfl rfl (rd_move rfl) rfl ?_
      refine xo_gef rfl rfl rfl (ef_call rfl (XF.mono (xf_over fun w hw => xf_CachePlays _ _ _ 3 3 xs hxl (hrx.over hw) (fun x hx => (hL x hx).over hw) (by omega) (by omega) (by omega)) ?_))
      rintro v L' ⟨rfl, rfl⟩
      refine xo_rd (rd_pickt rfl rfl) rfl ?_
      refine xo_rd (rd_move rfl) rfl ?_
      refine xo_grd rfl rfl (rd_move rfl) rfl ?_
      refine xo_gef rfl rfl rfl (ef_call rfl (XF.mono (xf_over fun w hw => xf_CachePlays _ _ _ 3 3 xs hxl (hrx.over hw) (fun x hx => (hL x hx).over hw) (by omega) (by omega) (by omega)) ?_))
      rintro v L' ⟨rfl, rfl⟩
      refine xo_rd (rd_pickt rfl rfl) rfl ?_
      refine xo_rd (rd_move rfl) rfl ?_
      refine xo_grd rfl rfl (rd_move rfl) rfl ?_
      refine xo_gef rfl rfl rfl (ef_call rfl (XF.mono (xf_over fun w hw => xf_CacheTells _ _ _ 3 3 xs hxl (hrx.over hw) (fun x hx => (hL x hx).over hw) (by omega) (by omega) (by omega)) ?_))
      rintro v L' ⟨rfl, rfl⟩
      refine xo_rd (rd_pickt rfl rfl) rfl ?_
      refine xo_rd (rd_move rfl) rfl ?_
      refine xo_gef rfl rfl rfl (ef_call rfl (XF.mono (xf_over fun w hw => xf_CacheNone 5 1) ?_))
      rintro v L' ⟨rfl, rfl⟩
      refine xo_rd (rd_pickt rfl rfl) rfl ?_
      refine xo_rd (rd_move rfl) rfl ?_
      refine xo_gef rfl rfl rfl (ef_call rfl (XF.mono (xf_works) ?_))
      rintro v L' ⟨rfl, rfl⟩
      refine xo_rd (rd_pickt rfl rfl) rfl ?_
      refine xo_rd (rd_assign rfl) rfl ?_
      refine xo_nil ?_
      refine xq_seq ?_
      refine xc_ret ?_
      exact xq_ret1 (.inl rfl) Try.results7 rfl (rfl)
end Go.Proofs.Ytmjklmjdmocaiaa.X
