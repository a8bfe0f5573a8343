/-
  Texts of my own, put together: walks and laws for this seat. No condition.
-/
import Derived.Test.YtohlaabclifbfaaM8
/-
  The reader of a body: blocks, chunks; walks of my own.
-/
namespace Go.Proofs.Ytohlaabclifbfaa.X
open Go Go.RowKit
set_option linter.unusedVariables false
set_option linter.unusedSimpArgs false
/-- A block that holds a reader, whose bytes lie in L0 (or in the base world). -/
def RdB (W : World) (L0 : List Blk) (r : Rd) (o : Obj) : Prop := ∃ p c, o = .cells (rdC p c r).toArray 116 (0, 0) ∧ r.l.length ≤ c ∧ Rs W L0 p (ints .u8 r.l) ∧ r.Ok 1000000000
theorem RdB.ok {W : World} {L0 : List Blk} {r : Rd} {o : Obj} (h : RdB W L0 r o) : r.Ok 1000000000 := by obtain ⟨p, c, _, _, _, h⟩ := h; exact h
theorem xr_byte {W : World} {L L0 : List Blk} (b : Nat) {o : Obj} {r : Rd} (h : RdB W L0 r o) (hs : ∀ z, z ∈ L0 → z ∈ L) :
    XF Try.prog W 76 #[.pointer (some ⟨b, 0, none⟩)] ((b, o) :: L) (fun v L' => v = .int .u8 ((r.take 1).1.getD 0 0) ∧ ∃ o', RdB W L0 (r.take 1).2 o' ∧ L' = (b, o') :: L) := by
  obtain ⟨p, c, rfl, hc, hr, ho⟩ := h
  have hby := r.take_get _ ho
  unfold By at hby
  obtain ⟨n, hn⟩ : ∃ n : Nat, (r.take 1).1.getD 0 0 = n := ⟨((r.take 1).1.getD 0 0).toNat, by omega⟩
  have hsz := ho.sz
  refine (xf_byte b p c r n hn (hr.mono hs) hc (by omega)).mono ?_
  rintro v L' ⟨rfl, p', c', h1, h2, rfl⟩
  exact ⟨by rw [hn], _, ⟨p', c', rfl, h2, h1 _ hr, (Rd.take_by ho 1).2⟩, rfl⟩
theorem xr_long {W : World} {L L0 : List Blk} (b : Nat) {o : Obj} {r : Rd} (h : RdB W L0 r o) (hs : ∀ z, z ∈ L0 → z ∈ L) :
    XF Try.prog W 63 #[.pointer (some ⟨b, 0, none⟩)] ((b, o) :: L) (fun v L' => v = .int .u32 (vl (r.take 4).1) ∧ ∃ o', RdB W L0 (r.take 4).2 o' ∧ L' = (b, o') :: L) := by
  obtain ⟨p, c, rfl, hc, hr, ho⟩ := h
  refine (xf_rlong b p c r _ ho (by decide) (hr.mono hs) hc).mono ?_
  rintro v L' ⟨rfl, p', c', h1, h2, rfl⟩
  exact ⟨rfl, _, ⟨p', c', rfl, h2, h1 _ hr, (Rd.take_by ho 4).2⟩, rfl⟩
theorem Rd.text_ok {r : Rd} {K : Nat} (h : r.Ok K) : r.text.2.Ok K := (Rd.take_by (Rd.take_by h 1).2 _).2
theorem Rd.fill_ok {r : Rd} {K : Nat} (h : r.Ok K) : r.fill.Ok K := (Rd.take_by h _).2
theorem xr_text {W : World} {L L0 : List Blk} (b : Nat) {o : Obj} {r : Rd} (h : RdB W L0 r o) (hs : ∀ z, z ∈ L0 → z ∈ L) :
    XF Try.prog W 68 #[.pointer (some ⟨b, 0, none⟩)] ((b, o) :: L) (fun v L' => v = .string (strOfNums r.text.1) ∧ ∃ o', RdB W L0 r.text.2 o' ∧ L' = (b, o') :: L) := by
  obtain ⟨p, c, rfl, hc, hr, ho⟩ := h
  refine (xf_rtext b p c r _ ho (by decide) (hr.mono hs) hc).mono ?_
  rintro v L' ⟨rfl, p', c', h1, h2, rfl⟩
  exact ⟨rfl, _, ⟨p', c', rfl, h2, h1 _ hr, Rd.text_ok ho⟩, rfl⟩
theorem xr_fill {W : World} {L L0 : List Blk} (b : Nat) {o : Obj} {r : Rd} (h : RdB W L0 r o) (hs : ∀ z, z ∈ L0 → z ∈ L) :
    XF Try.prog W 69 #[.pointer (some ⟨b, 0, none⟩)] ((b, o) :: L) (fun v L' => v = .tuple #[] ∧ ∃ o', RdB W L0 r.fill o' ∧ L' = (b, o') :: L) := by
  obtain ⟨p, c, rfl, hc, hr, ho⟩ := h
  refine (xf_rfill b p c r _ ho (by decide) (hr.mono hs) hc).mono ?_
  rintro v L' ⟨rfl, p', c', h1, h2, rfl⟩
  exact ⟨rfl, _, ⟨p', c', rfl, h2, h1 _ hr, Rd.fill_ok ho⟩, rfl⟩
theorem xr_told {W : World} {L L0 : List Blk} (b : Nat) {o : Obj} {r : Rd} (h : RdB W L0 r o) (x : Pb) (kind : Int) (whole : Bool) :
    XF Try.prog W 65 #[.pointer (some ⟨b, 0, none⟩), .agg x.enc.toArray, .int .u8 kind, .bool whole] ((b, o) :: L) (fun v L' => v = .int .i64 (toldE x.q r kind whole) ∧ L' = (b, o) :: L) := by
  obtain ⟨p, c, rfl, hc, hr, ho⟩ := h
  exact xf_told b p c r x kind whole
def to24 (v : Int) : Int := IntKind.i32.wrap (IntKind.u32.wrap (v * 256)) / 256
def Rd.blk (r : Rd) : Bk × Rd :=
  (⟨vl (r.take 4).1, vl ((r.take 4).2.take 4).1 / 16777216, to24 (vl ((r.take 4).2.take 4).1), vl (((r.take 4).2.take 4).2.take 4).1, vl ((((r.take 4).2.take 4).2.take 4).2.take 4).1, vl (((((r.take 4).2.take 4).2.take 4).2.take 4).2.take 4).1, vl ((((((r.take 4).2.take 4).2.take 4).2.take 4).2.take 4).2.take 4).1⟩,
    ((((((r.take 4).2.take 4).2.take 4).2.take 4).2.take 4).2.take 4).2)
def Rd.blks : Nat → Rd → List Bk × Rd
  | 0, r => ([], r)
  | n + 1, r => (r.blk.1 :: (Rd.blks n r.blk.2).1, (Rd.blks n r.blk.2).2)
theorem Rd.blks_len : ∀ (n : Nat) (r : Rd), (Rd.blks n r).1.length = n
  | 0, _ => rfl
  | n + 1, r => by rw [Rd.blks, List.length_cons, Rd.blks_len n]
theorem Rd.vl_u4 {r : Rd} {K : Nat} (h : r.Ok K) : U4 (vl (r.take 4).1) := X.vl_u4 _ (Rd.take_by h 4).1 (by rw [r.take_len]; exact Nat.le_refl _)
structure BlS where
  i : Nat
  ys : List Bk
  r : Rd
  o : Obj
  s : Option Addr
  k : Nat
  l : List Blk
set_option maxHeartbeats 4000000 in
theorem xr_blocks {W : World} {L L0 : List Blk} (b : Nat) {o : Obj} {r : Rd} (n : Nat) (hn : n ≤ 255) (h : RdB W L0 r o) (hs : ∀ z, z ∈ L0 → z ∈ L) :
    XF Try.prog W 64 #[.pointer (some ⟨b, 0, none⟩), .int .u8 n] ((b, o) :: L) (fun v L' => ∃ s k l o', v = .slice s n k ∧ SlO 7 95 (.slice s n k) n ((Rd.blks n r).1.flatMap Bk.enc) l ∧ RdB W L0 (Rd.blks n r).2 o' ∧ L' = (b, o') :: (l ++ L)) := by
  refine xf_enter (args := [_, _]) Try.func64 rfl Try.ntmps64 rfl ?_
  focus
    refine xc_seq ?_
    refine xc_region ?_
    refine xo_rd (rd_assign rfl) rfl ?_
    refine xo_nil ?_
    refine xq_seq ?_
    refine xc_seq ?_
    refine xc_seq ?_
    refine xc_region ?_
    refine xo_rd (rd_move rfl) rfl ?_
    refine xo_rd (rd_move rfl) rfl ?_
    refine xo_nil ?_
    refine xq_seq ?_
    refine xc_block ?_
  refine xc_loopI (ι := BlS) (fun z => z.i ≤ n ∧ z.ys.length = z.i ∧ RdB W L0 z.r z.o ∧ Rd.blks n r = (z.ys ++ (Rd.blks (n - z.i) z.r).1, (Rd.blks (n - z.i) z.r).2) ∧ SlO 7 95 (.slice z.s z.i z.k) z.i (z.ys.flatMap Bk.enc) z.l) (fun z => n - z.i) (fun z => (b, z.o) :: (z.l ++ L)) (fun z => [(0, .pointer (some ⟨b, 0, none⟩)), (7, .int .u8 n), (8, .int .u8 z.i), (4, .slice z.s z.i z.k)]) ⟨0, [], r, o, none, 0, []⟩ ⟨Nat.zero_le _, rfl, h, rfl, SlO.nil⟩ rfl (by repeat (first | exact keep_nil | refine keep_cons rfl ?_)) ?_
  rintro ⟨i, ys, r1, o1, s, k, l⟩ ⟨hi, hyl, hB, heq, hO⟩
  dsimp only at hi hyl hB heq hO ⊢
  by_cases hin : i < n
  · have e1 : Rd.blks (n - i) r1 = (r1.blk.1 :: (Rd.blks (n - (i + 1)) r1.blk.2).1, (Rd.blks (n - (i + 1)) r1.blk.2).2) := by
      obtain ⟨m, hm⟩ : ∃ m, n - i = m + 1 := ⟨n - i - 1, by omega⟩
      rw [hm, show n - (i + 1) = m from by omega]; rfl
    rw [e1] at heq
    have hu := Rd.vl_u4 (Rd.take_by hB.ok 4).2
    unfold U4 at hu
    generalize hv : vl ((r1.take 4).2.take 4).1 = v at *
    focus
      refine xc_seq ?_
      refine xc_region ?_
      refine xo_rd (rd_lss rfl rfl) rfl ?_
      refine xo_nil ?_
      refine xq_seq ?_
      refine xc_seq ?_
      refine xc_dec rfl (fun h1 => ?_) (fun h1 => (by exfalso; omega))
      refine xc_skip ?_
      refine xq_seq ?_
      refine xc_seq ?_
      refine xc_block ?_
      refine xc_seq ?_
      refine xc_region ?_
      refine xo_rd (rd_move rfl) rfl ?_
      refine xo_ef rfl (ef_call rfl (XF.mono (xr_long _ (by assumption) (fun z hz => by simp [hs z hz])) ?_))
      rintro v L' ⟨rfl, o2, ho2, rfl⟩
      refine xo_rd (rd_build rfl rfl rfl) rfl ?_
      refine xo_ef rfl (ef_alloc fun r5 => ?_)
      refine xo_ef rfl (ef_storeB [] _ rfl rfl (by first | rfl | assumption) rfl rfl rfl ?_)
      refine xo_nil ?_
      refine xq_seq ?_
      refine xc_seq ?_
      refine xc_region ?_
      refine xo_rd (rd_move rfl) rfl ?_
      refine xo_ef rfl (ef_call rfl (XF.mono (XF.mid [_] (xr_long _ (by assumption) (fun z hz => by simp [hs z hz]))) ?_))
      rintro v L' ⟨rfl, o2, ho2, rfl⟩
      refine xo_mid [_] ?_
      refine xo_rd (rd_assign rfl) rfl ?_
      refine xo_nil ?_
      refine xq_seq ?_
    rw [hv]
    have hblk : r1.blk.1 = ⟨vl (r1.take 4).1, v / 16777216, to24 v, vl (((r1.take 4).2.take 4).2.take 4).1, vl ((((r1.take 4).2.take 4).2.take 4).2.take 4).1, vl (((((r1.take 4).2.take 4).2.take 4).2.take 4).2.take 4).1, vl ((((((r1.take 4).2.take 4).2.take 4).2.take 4).2.take 4).2.take 4).1⟩ := by rw [← hv]; rfl
    focus
      refine xc_seq ?_
      refine xc_region ?_
      refine xo_rd (rd_move rfl) rfl ?_
      refine xo_rd (rd_shr rfl rfl (by decide) (by decide)) rfl ?_
      refine xo_rd (rd_cast (v' := .int .u8 (v / 16777216)) (rd_conv rfl) (congrArg (Value.int .u8) (KB.h (v / 16777216) (by omega) (by omega)))) rfl ?_
      refine xo_rd (rd_move rfl) rfl ?_
      refine xo_rd (rd_shl rfl rfl (by decide) (by decide)) rfl ?_
      refine xo_rd (rd_conv rfl) rfl ?_
      refine xo_rd (rd_cast (v' := .int .i32 (to24 v)) (rd_shr rfl rfl (by decide) (by decide)) rfl) rfl ?_
      refine xo_rd (rd_fieldAddr rfl) rfl ?_
      refine xo_ef rfl (ef_store1 [] _ rfl rfl (by first | rfl | assumption) rfl rfl rfl ?_)
      refine xo_rd (rd_fieldAddr rfl) rfl ?_
      refine xo_ef rfl (ef_store1 [] _ rfl rfl (by first | rfl | assumption) rfl rfl rfl ?_)
      refine xo_nil ?_
      refine xq_seq ?_
      refine xc_seq ?_
      refine xc_region ?_
      refine xo_rd (rd_move rfl) rfl ?_
      refine xo_ef rfl (ef_call rfl (XF.mono (XF.mid [_] (xr_long _ (by assumption) (fun z hz => by simp [hs z hz]))) ?_))
      rintro v L' ⟨rfl, o2, ho2, rfl⟩
      refine xo_mid [_] ?_
      refine xo_rd (rd_move rfl) rfl ?_
      refine xo_ef rfl (ef_call rfl (XF.mono (XF.mid [_] (xr_long _ (by assumption) (fun z hz => by simp [hs z hz]))) ?_))
      rintro v L' ⟨rfl, o2, ho2, rfl⟩
      refine xo_mid [_] ?_
      refine xo_rd (rd_move rfl) rfl ?_
      refine xo_ef rfl (ef_call rfl (XF.mono (XF.mid [_] (xr_long _ (by assumption) (fun z hz => by simp [hs z hz]))) ?_))
      rintro v L' ⟨rfl, o2, ho2, rfl⟩
      refine xo_mid [_] ?_
      refine xo_rd (rd_move rfl) rfl ?_
      refine xo_ef rfl (ef_call rfl (XF.mono (XF.mid [_] (xr_long _ (by assumption) (fun z hz => by simp [hs z hz]))) ?_))
      rintro v L' ⟨rfl, o2, ho2, rfl⟩
      refine xo_mid [_] ?_
      refine xo_rd (rd_fieldAddr rfl) rfl ?_
      refine xo_ef rfl (ef_store1 [] _ rfl rfl (by first | rfl | assumption) rfl rfl rfl ?_)
      refine xo_rd (rd_fieldAddr rfl) rfl ?_
      refine xo_ef rfl (ef_store1 [] _ rfl rfl (by first | rfl | assumption) rfl rfl rfl ?_)
      refine xo_rd (rd_fieldAddr rfl) rfl ?_
      refine xo_ef rfl (ef_store1 [] _ rfl rfl (by first | rfl | assumption) rfl rfl rfl ?_)
      refine xo_rd (rd_fieldAddr rfl) rfl ?_
      refine xo_ef rfl (ef_store1 [] _ rfl rfl (by first | rfl | assumption) rfl rfl rfl ?_)
      refine xo_nil ?_
      refine xq_seq ?_
      refine xc_region ?_
      refine xo_rd (rd_move rfl) rfl ?_
      refine xo_rd (rd_loadB rfl Kn.o0 (by rfl)) rfl ?_
      refine xo_ef rfl (ef_sliceA (vs := Bk.enc ⟨vl (r1.take 4).1, v / 16777216, to24 v, vl (((r1.take 4).2.take 4).2.take 4).1, vl ((((r1.take 4).2.take 4).2.take 4).2.take 4).1, vl (((((r1.take 4).2.take 4).2.take 4).2.take 4).2.take 4).1, vl ((((((r1.take 4).2.take 4).2.take 4).2.take 4).2.take 4).2.take 4).1⟩) rfl rfl (by rw [Bk.len]; decide) (by rw [Bk.len]; decide) fun r38 => ?_)
      refine xo_ef rfl (ef_appendS [_, _, _] L l (news := Bk.enc ⟨vl (r1.take 4).1, v / 16777216, to24 v, vl (((r1.take 4).2.take 4).2.take 4).1, vl ((((r1.take 4).2.take 4).2.take 4).2.take 4).1, vl (((((r1.take 4).2.take 4).2.take 4).2.take 4).2.take 4).1, vl ((((((r1.take 4).2.take 4).2.take 4).2.take 4).2.take 4).2.take 4).1⟩) rfl rfl hO rfl (Rs.fresh (List.Mem.head _)) rfl rfl (by decide) (by omega) (by omega) fun s' k' l' hO' hk' => ?_)
      refine xo_rd (rd_assign rfl) rfl ?_
      refine xo_nil ?_
      refine xq_block ?_
      refine xq_seq ?_
      refine xc_region ?_
      refine xo_rd (rd_addn rfl rfl (by omega) (by omega)) rfl ?_
      refine xo_rd (rd_move rfl) rfl ?_
      refine xo_nil ?_
    refine xq_tail (xq_tail (xq_roundI (⟨i + 1, ys ++ [r1.blk.1], r1.blk.2, _, s', k', l'⟩ : BlS) ⟨by dsimp only; omega, by simp [hyl], by assumption, ?_, ?_⟩ (by dsimp only; omega) rfl (by repeat (first | exact keep_nil | refine keep_cons rfl ?_))))
    · rw [heq]; simp only [List.append_assoc, List.singleton_append]
    · dsimp only
      rw [List.flatMap_append, List.flatMap_singleton, hblk]
      exact hO'
  · obtain rfl : i = n := by omega
    rw [Nat.sub_self] at heq
    rw [heq]
    focus
      refine xc_seq ?_
      refine xc_region ?_
      refine xo_rd (rd_lss rfl rfl) rfl ?_
      refine xo_nil ?_
      refine xq_seq ?_
      refine xc_seq ?_
      refine xc_dec rfl (fun h1 => (by exfalso; omega)) (fun h1 => ?_)
      refine xc_exit ?_
      refine xq_then_exit ?_
      refine xq_then_exit ?_
      refine xq_block_hit ?_
      refine xq_seq ?_
      refine xc_seq ?_
      refine xc_region ?_
      refine xo_rd (rd_move rfl) rfl ?_
      refine xo_rd (rd_assign rfl) rfl ?_
      refine xo_nil ?_
      refine xq_seq ?_
      refine xc_ret ?_
    exact xq_ret1 (.inl rfl) Try.results64 rfl ⟨s, k, l, o1, rfl, by rw [show ys ++ (Rd.blks 0 r1).1 = ys from List.append_nil _]; exact hO, hB, rfl⟩
/-- How far a reader may still go. -/
def Rd.m (r : Rd) : Nat := if r.bad = true then 0 else r.l.length + 1
theorem Rd.m_take (r : Rd) (n : Nat) : (r.take n).2.m ≤ r.m := by
  by_cases h : r.bad = true ∨ r.l.length < n
  · rw [Rd.take_bad h]; exact Nat.zero_le _
  · rw [Rd.take_ok h]
    have hb : r.bad = false := by
      cases hb : r.bad
      · rfl
      · exact absurd (.inl hb) h
    unfold Rd.m
    dsimp only
    rw [if_neg (by decide), hb, if_neg (by decide), List.length_drop]
    omega
theorem Rd.m_take1 (r : Rd) (hb : r.bad = false) : (r.take 1).2.m < r.m := by
  by_cases h : r.bad = true ∨ r.l.length < 1
  · rw [Rd.take_bad h]; unfold Rd.m; rw [if_pos rfl, hb, if_neg (by decide)]; omega
  · rw [Rd.take_ok h]
    unfold Rd.m
    dsimp only
    rw [if_neg (by decide), hb, if_neg (by decide), List.length_drop]
    omega
theorem Rd.m_text (r : Rd) (hb : r.bad = false) : (r.text.2.take 1).2.m < r.m :=
  Nat.lt_of_le_of_lt (Rd.m_take _ 1) (Nat.lt_of_le_of_lt (Rd.m_take _ _) (r.m_take1 hb))
/-- A chunk's items: the name that they tell. -/
def Rd.items : Nat → Rd → Int → Bool → List Int → List Int × Rd
  | 0, r, _, _, nm => (nm, r)
  | K + 1, r, sort, named, nm => if sort ≠ 0 ∧ r.bad = false then Rd.items K (r.text.2.take 1).2 ((r.text.2.take 1).1.getD 0 0) (named || decide (sort = 1)) (if sort = 1 ∧ named = false then r.text.1 else nm) else (nm, r)
def Rd.itm (r : Rd) : List Int × Rd := Rd.items ((r.take 4).2.l.length + 1) ((r.take 4).2.take 1).2 (((r.take 4).2.take 1).1.getD 0 0) false []
def Rd.chunk (r : Rd) : Ck × Rd := (⟨vl (r.take 4).1, strOfNums r.itm.1⟩, r.itm.2.fill)
structure ItS where
  K : Nat
  r : Rd
  so : Int
  nd : Bool
  nm : List Int
  o : Obj
set_option maxHeartbeats 4000000 in
theorem xr_chunk {W : World} {L L0 : List Blk} (b : Nat) {o : Obj} {r : Rd} (h : RdB W L0 r o) (hs : ∀ z, z ∈ L0 → z ∈ L) :
    XF Try.prog W 67 #[.pointer (some ⟨b, 0, none⟩)] ((b, o) :: L) (fun v L' => v = .agg r.chunk.1.enc.toArray ∧ ∃ o', RdB W L0 r.chunk.2 o' ∧ L' = (b, o') :: L) := by
  refine xf_enter (args := [_]) Try.func67 rfl Try.ntmps67 rfl ?_
  unfold Rd.chunk Rd.itm
  focus
    refine xc_seq ?_
    refine xc_region ?_
    refine xo_ef rfl (ef_alloc fun r2 => ?_)
    refine xo_nil ?_
    refine xq_seq ?_
    refine xc_seq ?_
    refine xc_region ?_
    refine xo_rd (rd_move rfl) rfl ?_
    refine xo_ef rfl (ef_call rfl (XF.mono (XF.mid [_] (xr_long _ (by assumption) (fun z hz => by simp [hs z hz]))) ?_))
    rintro v L' ⟨rfl, o2, ho2, rfl⟩
    refine xo_mid [_] ?_
    refine xo_rd (rd_build rfl rfl rfl) rfl ?_
    refine xo_ef rfl (ef_alloc fun r3 => ?_)
    refine xo_ef rfl (ef_storeB [] _ rfl rfl (by first | rfl | assumption) rfl rfl rfl ?_)
    refine xo_nil ?_
    refine xq_seq ?_
    refine xc_seq ?_
    refine xc_region ?_
    refine xo_rd (rd_assign rfl) rfl ?_
    refine xo_nil ?_
    refine xq_seq ?_
    refine xc_seq ?_
    refine xc_seq ?_
    refine xc_region ?_
    refine xo_rd (rd_move rfl) rfl ?_
    refine xo_ef rfl (ef_call rfl (XF.mono (XF.mid [_, _] (xr_byte _ (by assumption) (fun z hz => by simp [hs z hz]))) ?_))
    rintro v L' ⟨rfl, o3, ho3, rfl⟩
    refine xo_mid [_, _] ?_
    refine xo_rd (rd_assign rfl) rfl ?_
    refine xo_nil ?_
    refine xq_seq ?_
    refine xc_block ?_
  have hm0 : ((r.take 4).2.take 1).2.m ≤ (r.take 4).2.l.length + 1 := by
    refine Nat.le_trans (Rd.m_take _ 1) ?_
    unfold Rd.m; split <;> omega
  generalize (r.take 4).2.l.length + 1 = K0 at *
  generalize hS0 : ((r.take 4).2.take 1).1.getD 0 0 = S0 at *
  generalize hR0 : ((r.take 4).2.take 1).2 = R0 at *
  generalize vl (r.take 4).1 = ss at *
  refine xc_loopI (ι := ItS) (fun z => RdB W L0 z.r z.o ∧ By z.so ∧ z.r.m ≤ z.K ∧ Rd.items K0 R0 S0 false [] = Rd.items z.K z.r z.so z.nd z.nm) (fun z => z.r.m) (fun z => (r3, .cells #[.int .u32 ss, .string (strOfNums z.nm)] 97 (0, 0)) :: (r2, .cells #[.int .u32 0, .string ⟨#[]⟩] 97 (0, 0)) :: (b, z.o) :: L) (fun z => [(0, .pointer (some ⟨b, 0, none⟩)), (2, .pointer (some ⟨r2, 0, none⟩)), (3, .pointer (some ⟨r3, 0, none⟩)), (4, .bool z.nd), (5, .int .u8 z.so)]) ⟨K0, R0, S0, false, [], o3⟩ ⟨ho3, by rw [← hS0]; exact Rd.take_get _ _ ho2.ok, hm0, rfl⟩ rfl (by repeat (first | exact keep_nil | refine keep_cons rfl ?_)) ?_
  rintro ⟨K, r1, so, nd, nm, o4⟩ ⟨hB, hso, hm, heq⟩
  dsimp only at hB hso hm heq ⊢
  by_cases hgo : so ≠ 0 ∧ r1.bad = false
  · obtain ⟨h0, hbad⟩ := hgo
    obtain ⟨K', rfl⟩ : ∃ K', K = K' + 1 := ⟨K - 1, by unfold Rd.m at hm; rw [hbad, if_neg (by decide)] at hm; omega⟩
    have e1 : Rd.items (K' + 1) r1 so nd nm = Rd.items K' (r1.text.2.take 1).2 ((r1.text.2.take 1).1.getD 0 0) (nd || decide (so = 1)) (if so = 1 ∧ nd = false then r1.text.1 else nm) := by
      rw [Rd.items, if_pos ⟨h0, hbad⟩]
    rw [e1] at heq
    have hm2 := r1.m_text hbad
    have hst2 := hB
    obtain ⟨p4, c4, rfl, hc4, hr4, hok4⟩ := hB
    have hld : ∀ a d R, Cl W (a :: d :: (b, .cells (rdC p4 c4 r1).toArray 116 (0, 0)) :: R) b (0 + 2) (.bool false) := fun a d R => by rw [← hbad]; exact Cl.o2 rfl
    have hby2 := Rd.take_get r1.text.2 _ (Rd.text_ok hok4)
    by_cases h1 : so = 1
    · cases nd with
      | false =>
        rw [if_pos ⟨h1, rfl⟩, decide_eq_true h1, Bool.false_or] at heq
        focus
          refine xc_seq ?_
          refine xc_seq ?_
          refine xc_region ?_
          refine xo_rd (rd_move rfl) rfl ?_
          refine xo_rd (rd_neq rfl rfl) rfl ?_
          refine xo_rd (rd_move rfl) rfl ?_
          refine xo_ndec 14 rfl (fun hq1 => ?_) (fun hq1 => (by exfalso; omega))
          refine xo_grd rfl rfl (rd_move rfl) rfl ?_
          refine xo_grd rfl rfl (rd_nilCheck rfl) rfl ?_
          refine xo_grd rfl rfl (rd_fieldAddr rfl) rfl ?_
          refine xo_grd rfl rfl (rd_load1 rfl (hld _ _ _)) rfl ?_
          refine xo_grd rfl rfl (rd_not rfl) rfl ?_
          refine xo_rd (rd_pickt rfl rfl) rfl ?_
          refine xo_nil ?_
          refine xq_seq ?_
          refine xc_condt rfl ?_
          refine xc_skip ?_
          refine xq_seq ?_
          refine xc_seq ?_
          refine xc_block ?_
          refine xc_seq ?_
          refine xc_region ?_
          refine xo_rd (rd_move rfl) rfl ?_
          refine xo_ef rfl (ef_call rfl (XF.mono (XF.mid [_, _] (xr_text _ (by assumption) (fun z hz => by simp [hs z hz]))) ?_))
          rintro v L' ⟨rfl, o5, ho5, rfl⟩
          refine xo_mid [_, _] ?_
          refine xo_rd (rd_assign rfl) rfl ?_
          refine xo_nil ?_
          refine xq_seq ?_
          refine xc_seq ?_
          refine xc_region ?_
          refine xo_rd (rd_move rfl) rfl ?_
          refine xo_rd (rd_eql rfl rfl) rfl ?_
          refine xo_rd (rd_move rfl) rfl ?_
          refine xo_dec 27 rfl (fun hq2 => ?_) (fun hq2 => (by exfalso; omega))
          refine xo_grd rfl rfl (rd_move rfl) rfl ?_
          refine xo_grd rfl rfl (rd_not rfl) rfl ?_
          refine xo_rd (rd_pickt rfl rfl) rfl ?_
          refine xo_nil ?_
          refine xq_seq ?_
          refine xc_condt rfl ?_
          refine xc_region ?_
          refine xo_rd (rd_move rfl) rfl ?_
          refine xo_rd (rd_fieldAddr rfl) rfl ?_
          refine xo_ef rfl (ef_store1 [] _ rfl rfl (by first | rfl | assumption) rfl rfl rfl ?_)
          refine xo_rd (rd_assign rfl) rfl ?_
          refine xo_nil ?_
          refine xq_block ?_
          refine xq_seq ?_
          refine xc_region ?_
          refine xo_rd (rd_move rfl) rfl ?_
          refine xo_ef rfl (ef_call rfl (XF.mono (XF.mid [_, _] (xr_byte _ (by assumption) (fun z hz => by simp [hs z hz]))) ?_))
          rintro v L' ⟨rfl, o6, ho6, rfl⟩
          refine xo_mid [_, _] ?_
          refine xo_rd (rd_assign rfl) rfl ?_
          refine xo_nil ?_
        exact (xq_roundI (⟨K', (r1.text.2.take 1).2, (r1.text.2.take 1).1.getD 0 0, true, r1.text.1, o6⟩ : ItS) ⟨by assumption, hby2, by dsimp only; omega, heq⟩ hm2 rfl (by repeat (first | exact keep_nil | refine keep_cons rfl ?_)))
      | true =>
        rw [if_neg (fun h => by cases h.2), Bool.true_or] at heq
        focus
          refine xc_seq ?_
          refine xc_seq ?_
          refine xc_region ?_
          refine xo_rd (rd_move rfl) rfl ?_
          refine xo_rd (rd_neq rfl rfl) rfl ?_
          refine xo_rd (rd_move rfl) rfl ?_
          refine xo_ndec 14 rfl (fun hq1 => ?_) (fun hq1 => (by exfalso; omega))
          refine xo_grd rfl rfl (rd_move rfl) rfl ?_
          refine xo_grd rfl rfl (rd_nilCheck rfl) rfl ?_
          refine xo_grd rfl rfl (rd_fieldAddr rfl) rfl ?_
          refine xo_grd rfl rfl (rd_load1 rfl (hld _ _ _)) rfl ?_
          refine xo_grd rfl rfl (rd_not rfl) rfl ?_
          refine xo_rd (rd_pickt rfl rfl) rfl ?_
          refine xo_nil ?_
          refine xq_seq ?_
          refine xc_condt rfl ?_
          refine xc_skip ?_
          refine xq_seq ?_
          refine xc_seq ?_
          refine xc_block ?_
          refine xc_seq ?_
          refine xc_region ?_
          refine xo_rd (rd_move rfl) rfl ?_
          refine xo_ef rfl (ef_call rfl (XF.mono (XF.mid [_, _] (xr_text _ (by assumption) (fun z hz => by simp [hs z hz]))) ?_))
          rintro v L' ⟨rfl, o5, ho5, rfl⟩
          refine xo_mid [_, _] ?_
          refine xo_rd (rd_assign rfl) rfl ?_
          refine xo_nil ?_
          refine xq_seq ?_
          refine xc_seq ?_
          refine xc_region ?_
          refine xo_rd (rd_move rfl) rfl ?_
          refine xo_rd (rd_eql rfl rfl) rfl ?_
          refine xo_rd (rd_move rfl) rfl ?_
          refine xo_dec 27 rfl (fun hq2 => ?_) (fun hq2 => (by exfalso; omega))
          refine xo_grd rfl rfl (rd_move rfl) rfl ?_
          refine xo_grd rfl rfl (rd_not rfl) rfl ?_
          refine xo_rd (rd_pickt rfl rfl) rfl ?_
          refine xo_nil ?_
          refine xq_seq ?_
          refine xc_condf rfl ?_
          refine xc_skip ?_
          refine xq_block ?_
          refine xq_seq ?_
          refine xc_region ?_
          refine xo_rd (rd_move rfl) rfl ?_
          refine xo_ef rfl (ef_call rfl (XF.mono (XF.mid [_, _] (xr_byte _ (by assumption) (fun z hz => by simp [hs z hz]))) ?_))
          rintro v L' ⟨rfl, o6, ho6, rfl⟩
          refine xo_mid [_, _] ?_
          refine xo_rd (rd_assign rfl) rfl ?_
          refine xo_nil ?_
        exact (xq_roundI (⟨K', (r1.text.2.take 1).2, (r1.text.2.take 1).1.getD 0 0, true, nm, o6⟩ : ItS) ⟨by assumption, hby2, by dsimp only; omega, heq⟩ hm2 rfl (by repeat (first | exact keep_nil | refine keep_cons rfl ?_)))
    · rw [if_neg (fun h => h1 h.1), decide_eq_false h1, Bool.or_false] at heq
      focus
        refine xc_seq ?_
        refine xc_seq ?_
        refine xc_region ?_
        refine xo_rd (rd_move rfl) rfl ?_
        refine xo_rd (rd_neq rfl rfl) rfl ?_
        refine xo_rd (rd_move rfl) rfl ?_
        refine xo_ndec 14 rfl (fun hq1 => ?_) (fun hq1 => (by exfalso; omega))
        refine xo_grd rfl rfl (rd_move rfl) rfl ?_
        refine xo_grd rfl rfl (rd_nilCheck rfl) rfl ?_
        refine xo_grd rfl rfl (rd_fieldAddr rfl) rfl ?_
        refine xo_grd rfl rfl (rd_load1 rfl (hld _ _ _)) rfl ?_
        refine xo_grd rfl rfl (rd_not rfl) rfl ?_
        refine xo_rd (rd_pickt rfl rfl) rfl ?_
        refine xo_nil ?_
        refine xq_seq ?_
        refine xc_condt rfl ?_
        refine xc_skip ?_
        refine xq_seq ?_
        refine xc_seq ?_
        refine xc_block ?_
        refine xc_seq ?_
        refine xc_region ?_
        refine xo_rd (rd_move rfl) rfl ?_
        refine xo_ef rfl (ef_call rfl (XF.mono (XF.mid [_, _] (xr_text _ (by assumption) (fun z hz => by simp [hs z hz]))) ?_))
        rintro v L' ⟨rfl, o5, ho5, rfl⟩
        refine xo_mid [_, _] ?_
        refine xo_rd (rd_assign rfl) rfl ?_
        refine xo_nil ?_
        refine xq_seq ?_
        refine xc_seq ?_
        refine xc_region ?_
        refine xo_rd (rd_move rfl) rfl ?_
        refine xo_rd (rd_eql rfl rfl) rfl ?_
        refine xo_rd (rd_move rfl) rfl ?_
        refine xo_dec 27 rfl (fun hq2 => (by exfalso; omega)) (fun hq2 => ?_)
        refine xo_gskip rfl rfl rfl rfl ?_
        refine xo_gskip rfl rfl rfl rfl ?_
        refine xo_rd (rd_pickf rfl rfl) rfl ?_
        refine xo_nil ?_
        refine xq_seq ?_
        refine xc_condf rfl ?_
        refine xc_skip ?_
        refine xq_block ?_
        refine xq_seq ?_
        refine xc_region ?_
        refine xo_rd (rd_move rfl) rfl ?_
        refine xo_ef rfl (ef_call rfl (XF.mono (XF.mid [_, _] (xr_byte _ (by assumption) (fun z hz => by simp [hs z hz]))) ?_))
        rintro v L' ⟨rfl, o6, ho6, rfl⟩
        refine xo_mid [_, _] ?_
        refine xo_rd (rd_assign rfl) rfl ?_
        refine xo_nil ?_
      exact (xq_roundI (⟨K', (r1.text.2.take 1).2, (r1.text.2.take 1).1.getD 0 0, nd, nm, o6⟩ : ItS) ⟨by assumption, hby2, by dsimp only; omega, heq⟩ hm2 rfl (by repeat (first | exact keep_nil | refine keep_cons rfl ?_)))
  · have e1 : Rd.items K r1 so nd nm = (nm, r1) := by
      cases K with
      | zero => rfl
      | succ K => rw [Rd.items, if_neg hgo]
    rw [e1] at heq
    rw [heq]
    dsimp only
    have hst2 := hB
    obtain ⟨p4, c4, rfl, hc4, hr4, hok4⟩ := hB
    have hld : ∀ a d R, Cl W (a :: d :: (b, .cells (rdC p4 c4 r1).toArray 116 (0, 0)) :: R) b (0 + 2) (.bool r1.bad) := fun a d R => Cl.o2 rfl
    by_cases h0 : so = 0
    · focus
        refine xc_seq ?_
        refine xc_seq ?_
        refine xc_region ?_
        refine xo_rd (rd_move rfl) rfl ?_
        refine xo_rd (rd_neq rfl rfl) rfl ?_
        refine xo_rd (rd_move rfl) rfl ?_
        refine xo_ndec 14 rfl (fun hq1 => (by exfalso; omega)) (fun hq1 => ?_)
        refine xo_gskip rfl rfl rfl rfl ?_
        refine xo_gskip rfl rfl rfl rfl ?_
        refine xo_gskip rfl rfl rfl rfl ?_
        refine xo_gskip rfl rfl rfl rfl ?_
        refine xo_gskip rfl rfl rfl rfl ?_
        refine xo_rd (rd_pickf rfl rfl) rfl ?_
        refine xo_nil ?_
        refine xq_seq ?_
        refine xc_condf rfl ?_
        refine xc_exit ?_
        refine xq_then_exit ?_
        refine xq_then_exit ?_
        refine xq_block_hit ?_
        refine xq_seq ?_
        refine xc_seq ?_
        refine xc_region ?_
        refine xo_rd (rd_move rfl) rfl ?_
        refine xo_ef rfl (ef_call rfl (XF.mono (XF.mid [_, _] (xr_fill _ (by assumption) (fun z hz => by simp [hs z hz]))) ?_))
        rintro v L' ⟨rfl, o5, ho5, rfl⟩
        refine xo_mid [_, _] ?_
        refine xo_nil ?_
        refine xq_seq ?_
        refine xc_seq ?_
        refine xc_region ?_
        refine xo_rd (rd_loadB rfl Kn.o0 (by rfl)) rfl ?_
        refine xo_ef rfl (ef_storeB [_] _ rfl rfl (by first | rfl | assumption) rfl rfl rfl ?_)
        refine xo_nil ?_
        refine xq_seq ?_
        refine xc_ret ?_
      exact xq_retB (.inl rfl) Try.results67 rfl Kn.o1 rfl (.cons _ (.cons _ (List.Sublist.refl _))) ⟨rfl, o5, ho5, rfl⟩
    · have hbad : r1.bad = true := by
        cases hb : r1.bad
        · exact absurd ⟨h0, hb⟩ hgo
        · rfl
      rw [hbad] at hld
      focus
        refine xc_seq ?_
        refine xc_seq ?_
        refine xc_region ?_
        refine xo_rd (rd_move rfl) rfl ?_
        refine xo_rd (rd_neq rfl rfl) rfl ?_
        refine xo_rd (rd_move rfl) rfl ?_
        refine xo_ndec 14 rfl (fun hq1 => ?_) (fun hq1 => (by exfalso; omega))
        refine xo_grd rfl rfl (rd_move rfl) rfl ?_
        refine xo_grd rfl rfl (rd_nilCheck rfl) rfl ?_
        refine xo_grd rfl rfl (rd_fieldAddr rfl) rfl ?_
        refine xo_grd rfl rfl (rd_load1 rfl (hld _ _ _)) rfl ?_
        refine xo_grd rfl rfl (rd_not rfl) rfl ?_
        refine xo_rd (rd_pickt rfl rfl) rfl ?_
        refine xo_nil ?_
        refine xq_seq ?_
        refine xc_condf rfl ?_
        refine xc_exit ?_
        refine xq_then_exit ?_
        refine xq_then_exit ?_
        refine xq_block_hit ?_
        refine xq_seq ?_
        refine xc_seq ?_
        refine xc_region ?_
        refine xo_rd (rd_move rfl) rfl ?_
        refine xo_ef rfl (ef_call rfl (XF.mono (XF.mid [_, _] (xr_fill _ (by assumption) (fun z hz => by simp [hs z hz]))) ?_))
        rintro v L' ⟨rfl, o5, ho5, rfl⟩
        refine xo_mid [_, _] ?_
        refine xo_nil ?_
        refine xq_seq ?_
        refine xc_seq ?_
        refine xc_region ?_
        refine xo_rd (rd_loadB rfl Kn.o0 (by rfl)) rfl ?_
        refine xo_ef rfl (ef_storeB [_] _ rfl rfl (by first | rfl | assumption) rfl rfl rfl ?_)
        refine xo_nil ?_
        refine xq_seq ?_
        refine xc_ret ?_
      exact xq_retB (.inl rfl) Try.results67 rfl Kn.o1 rfl (.cons _ (.cons _ (List.Sublist.refl _))) ⟨rfl, o5, ho5, rfl⟩
end Go.Proofs.Ytohlaabclifbfaa.X
/-
  What packets tell: walks of my own.
-/
namespace Go.Proofs.Ytohlaabclifbfaa.X
open Go Go.RowKit
set_option linter.unusedVariables false
set_option linter.unusedSimpArgs false
theorem or64_32 (a c : Int) (h0 : 0 ≤ a) (h1 : a ≤ 4294967295) (h2 : 0 ≤ c) (h3 : c < 4294967296) : bits .or .u64 (a * 4294967296) c = a * 4294967296 + c := by
  obtain ⟨n, rfl⟩ := Int.eq_ofNat_of_zero_le h0
  obtain ⟨k, rfl⟩ := Int.eq_ofNat_of_zero_le h2
  have e1 : (BitVec.ofInt 64 ((n : Int) * 4294967296) ||| BitVec.ofInt 64 (k : Int)).toNat = n * 4294967296 + k := by
    rw [BitVec.toNat_or]
    have a1 : (BitVec.ofInt 64 ((n : Int) * 4294967296)).toNat = n * 4294967296 := by
      rw [show ((n : Int) * 4294967296) = ((n * 4294967296 : Nat) : Int) from by omega, BitVec.ofInt_natCast, BitVec.toNat_ofNat]
      exact Nat.mod_eq_of_lt (by show n * 4294967296 < 18446744073709551616; omega)
    have a2 : (BitVec.ofInt 64 (k : Int)).toNat = k := by
      rw [BitVec.ofInt_natCast, BitVec.toNat_ofNat]
      exact Nat.mod_eq_of_lt (by show k < 18446744073709551616; omega)
    rw [a1, a2, Nat.mul_comm n 4294967296]
    exact (Nat.two_pow_add_eq_or_of_lt (i := 32) (b := k) (by omega) n).symm.trans (by omega)
  show IntKind.u64.wrap ((BitVec.ofInt 64 ((n : Int) * 4294967296) ||| BitVec.ofInt 64 (k : Int)).toNat : Int) = _
  rw [e1, wrap_u64]; omega
def rd0 (q : Pc) : Rd := ⟨q.bd, 0, false⟩
theorem rd0_B {W : World} {L : List Blk} {x : Pb} (hr : Rs W L x.p (ints .u8 x.q.bd)) (hg : x.q.Rg) (hc : x.q.bd.length ≤ x.c) (hn : x.q.bd.length ≤ 1000000) : RdB W L (rd0 x.q) (.cells #[.slice x.p x.q.bd.length x.c, .int .i64 0, .bool false] 116 (0, 0)) :=
  ⟨x.p, x.c, rfl, hc, hr, hg.bd, by show 0 + x.q.bd.length ≤ _; omega⟩
theorem xr_blocksE {W : World} {L L0 : List Blk} (b : Nat) {o : Obj} {r : Rd} (n : Nat) (hn : n ≤ 255) (h : RdB W L0 r o) (hs : ∀ z, z ∈ L0 → z ∈ L) :
    XF Try.prog W 64 #[.pointer (some ⟨b, 0, none⟩), .int .u8 n] ((b, o) :: L) (fun v L' => ∃ s k l o', v = .slice s n k ∧ SlO 7 95 (.slice s n k) n ((Rd.blks n r).1.flatMap Bk.enc) l ∧ RdB W L0 (Rd.blks n r).2 o' ∧ L' = (b, o') :: (L ++ l)) := by
  refine ⟨fun w hw => Calls.mono ((xr_blocks b n hn h hs).run w hw) ?_⟩
  rintro e w' ⟨v, he, L', h1, s, k, l, o', h2, h3, h4, rfl⟩
  exact ⟨v, he, _, h1.perm (List.Perm.cons _ List.perm_append_comm), s, k, l, o', h2, h3, h4, rfl⟩
def Rd.sn (r : Rd) (n : Nat) : Sn × Rd :=
  (⟨vl (r.take 4).1, vl ((r.take 4).2.take 4).1 * 4294967296 + vl (((r.take 4).2.take 4).2.take 4).1, vl ((((r.take 4).2.take 4).2.take 4).2.take 4).1, vl (((((r.take 4).2.take 4).2.take 4).2.take 4).2.take 4).1, vl ((((((r.take 4).2.take 4).2.take 4).2.take 4).2.take 4).2.take 4).1,
    (Rd.blks n ((((((r.take 4).2.take 4).2.take 4).2.take 4).2.take 4).2.take 4).2).1⟩, (Rd.blks n ((((((r.take 4).2.take 4).2.take 4).2.take 4).2.take 4).2.take 4).2).2)
def Sn.zero : Sn := ⟨0, 0, 0, 0, 0, []⟩
def ofSn (q : Pc) : Sn × Int := if toldE q ((rd0 q).sn q.ct.toNat).2 200 false = 0 then (((rd0 q).sn q.ct.toNat).1, 0) else (.zero, toldE q ((rd0 q).sn q.ct.toNat).2 200 false)
/-- What a sender that is told is. -/
def SnM (L : List Blk) (z : Sn × Int) (v : Value) (L' : List Blk) : Prop :=
  ∃ s k l, v = .tuple #[.agg (z.1.enc (.slice s z.1.bl.length k)).toArray, .int .i64 z.2] ∧ SlO 7 95 (.slice s z.1.bl.length k) z.1.bl.length (z.1.bl.flatMap Bk.enc) l ∧ L' = l ++ L
theorem SnM.err {L : List Blk} (e : Int) : SnM L (.zero, e) (.tuple #[.agg (Sn.zero.enc (.slice none 0 0)).toArray, .int .i64 e]) L := ⟨none, 0, [], rfl, SlO.nil, rfl⟩
structure OfS where
  r : Nat
  o : Obj
  s : Option Addr
  k : Nat
  l : List Blk
set_option maxHeartbeats 8000000 in
theorem xf_ofSender {W : World} {L : List Blk} (x : Pb) (hr : Rs W L x.p (ints .u8 x.q.bd)) (hg : x.q.Rg) (hc : x.q.bd.length ≤ x.c) (hn : x.q.bd.length ≤ 1000000) :
    XF Try.prog W 37 #[.agg x.enc.toArray] L (SnM L (ofSn x.q)) := by
  refine xf_enter (args := [_]) Try.func37 rfl Try.ntmps37 rfl ?_
  have hB := rd0_B hr hg hc hn
  have hct := hg.ct
  unfold By at hct
  obtain ⟨⟨ct', kd, bd, pd⟩, xp, xc, xl⟩ := x
  dsimp only at hct hB hr hc hn hg
  obtain ⟨ct, rfl⟩ : ∃ ct : Nat, ct' = ct := ⟨ct'.toNat, by omega⟩
  unfold ofSn
  dsimp only
  rw [show (ct : Int).toNat = ct from rfl]
  generalize hq : (⟨ct, kd, bd, pd⟩ : Pc) = q at *
  have hu1 := Rd.vl_u4 (Rd.take_by hB.ok 4).2
  have hu2 := Rd.vl_u4 (Rd.take_by (Rd.take_by hB.ok 4).2 4).2
  unfold U4 at hu1 hu2
  generalize hr0 : rd0 q = r0 at *
  subst hq
  unfold Pb.enc Pc.enc
  dsimp only
  focus
    refine xc_seq ?_
    refine xc_region ?_
    refine xo_ef rfl (ef_box rfl fun r1 => ?_)
    refine xo_ef rfl (ef_alloc fun r2 => ?_)
    refine xo_rd (rd_assign rfl) rfl ?_
    refine xo_nil ?_
    refine xq_seq ?_
    refine xc_seq ?_
    refine xc_region ?_
    refine xo_rd (rd_fieldAddr rfl) rfl ?_
    refine xo_rd (rd_load1 rfl (Cl.o1 rfl)) rfl ?_
    refine xo_rd (rd_build rfl rfl rfl) rfl ?_
    refine xo_ef rfl (ef_box rfl fun r10 => ?_)
    refine xo_rd (rd_assign rfl) rfl ?_
    refine xo_nil ?_
    refine xq_seq ?_
  have hbl : (r0.sn ct).1.bl.length = ct := Rd.blks_len _ _
  refine xc_join (ι := OfS) (fun z => RdB W L (r0.sn ct).2 z.o ∧ SlO 7 95 (.slice z.s ct z.k) ct ((r0.sn ct).1.bl.flatMap Bk.enc) z.l)
    (fun z => (z.r, .cells ((r0.sn ct).1.enc (.slice z.s ct z.k)).toArray 53 (0, 0)) :: (r10, z.o) :: (r2, .cells #[.int .u32 0, .int .u64 0, .int .u32 0, .int .u32 0, .int .u32 0, .slice none 0 0] 53 (0, 0)) :: (r1, .cells #[.int .u8 ct, .int .u8 kd, .slice xp bd.length xc, .int .u8 pd] 35 (0, 0)) :: (L ++ z.l))
    (fun z => [(1, .pointer (some ⟨r1, 0, none⟩)), (2, .pointer (some ⟨r2, 0, none⟩)), (4, .pointer (some ⟨r10, 0, none⟩)), (5, .pointer (some ⟨z.r, 0, none⟩))]) ?_ ?_
  · focus
      refine xc_drawM [0, 1, 0, 6, 8, 16, 0, 72, 128, 288, 0, 1152, 0, 6144, 0, 24576, 0, 0, 131072, 360448, 567810, 0, 4194303] [0, 1, 0, 6, 8, 16, 0, 72, 128, 288, 0, 1152, 0, 6144, 0, 24576, 0, 0, 131072, 360448, 567810, 0, 4194303] ([(r1, .cells #[.int .u8 ct, .int .u8 kd, .slice xp bd.length xc, .int .u8 pd] 35 (0, 0))]) (by kernel_rfl) (by kernel_rfl) (by kernel_rfl) ?_
      refine xm_take 0 (m' := 1) rfl (by kernel_rfl) (by first | exact Sb.refl | exact Sb.nil | (repeat (first | exact Sb.nil | exact Sb.refl | exact Sb.app0 | apply Sb.keep | apply Sb.keepApp | apply Sb.cons | apply Sb.app))) (rd_move rfl) rfl (by kernel_rfl) ?_
      refine xm_take 2 (m' := 5) rfl (by kernel_rfl) (by first | exact Sb.refl | exact Sb.nil | (repeat (first | exact Sb.nil | exact Sb.refl | exact Sb.app0 | apply Sb.keep | apply Sb.keepApp | apply Sb.cons | apply Sb.app))) (rd_move rfl) rfl (by kernel_rfl) ?_
      refine xm_take 6 (m' := 69) rfl (by kernel_rfl) (by first | exact Sb.refl | exact Sb.nil | (repeat (first | exact Sb.nil | exact Sb.refl | exact Sb.app0 | apply Sb.keep | apply Sb.keepApp | apply Sb.cons | apply Sb.app))) (rd_move rfl) rfl (by kernel_rfl) ?_
      refine xm_take 10 (m' := 1093) rfl (by kernel_rfl) (by first | exact Sb.refl | exact Sb.nil | (repeat (first | exact Sb.nil | exact Sb.refl | exact Sb.app0 | apply Sb.keep | apply Sb.keepApp | apply Sb.cons | apply Sb.app))) (rd_move rfl) rfl (by kernel_rfl) ?_
      refine xm_take 12 (m' := 5189) rfl (by kernel_rfl) (by first | exact Sb.refl | exact Sb.nil | (repeat (first | exact Sb.nil | exact Sb.refl | exact Sb.app0 | apply Sb.keep | apply Sb.keepApp | apply Sb.cons | apply Sb.app))) (rd_move rfl) rfl (by kernel_rfl) ?_
      refine xm_take 14 (m' := 21573) rfl (by kernel_rfl) (by first | exact Sb.refl | exact Sb.nil | (repeat (first | exact Sb.nil | exact Sb.refl | exact Sb.app0 | apply Sb.keep | apply Sb.keepApp | apply Sb.cons | apply Sb.app))) (rd_move rfl) rfl (by kernel_rfl) ?_
      refine xm_take 16 (m' := 87109) rfl (by kernel_rfl) (by first | exact Sb.refl | exact Sb.nil | (repeat (first | exact Sb.nil | exact Sb.refl | exact Sb.app0 | apply Sb.keep | apply Sb.keepApp | apply Sb.cons | apply Sb.app))) (rd_move rfl) rfl (by kernel_rfl) ?_
      refine xm_take 17 (m' := 218181) rfl (by kernel_rfl) (by first | exact Sb.refl | exact Sb.nil | (repeat (first | exact Sb.nil | exact Sb.refl | exact Sb.app0 | apply Sb.keep | apply Sb.keepApp | apply Sb.cons | apply Sb.app))) (rd_fieldAddr rfl) rfl (by kernel_rfl) ?_
      refine xm_take 18 (m' := 480325) rfl (by kernel_rfl) (by first | exact Sb.refl | exact Sb.nil | (repeat (first | exact Sb.nil | exact Sb.refl | exact Sb.app0 | apply Sb.keep | apply Sb.keepApp | apply Sb.cons | apply Sb.app))) (rd_load1 rfl (Cl.o0 rfl)) rfl (by kernel_rfl) ?_
      refine xm_two 1 21 (mi := 480327) (mk := 2577477) rfl rfl (by kernel_rfl) rfl rfl (by kernel_rfl) (by kernel_rfl) (ef_call rfl (XF.mono (xr_long _ (by assumption) (fun z hz => by simp [hz])) ?_)) (ef_alloc fun r5 => ⟨(by first | exact Sb.refl | exact Sb.nil | (repeat (first | exact Sb.nil | exact Sb.refl | exact Sb.app0 | apply Sb.keep | apply Sb.keepApp | apply Sb.cons | apply Sb.app))), ?_⟩)
      rotate_left
      rotate_right
      rintro v L' ⟨rfl, o2, ho2, rfl⟩
      refine ⟨(by first | exact Sb.refl | exact Sb.nil | (repeat (first | exact Sb.nil | exact Sb.refl | exact Sb.app0 | apply Sb.keep | apply Sb.keepApp | apply Sb.cons | apply Sb.app))), ?_⟩
      refine xm_two 3 21 (mi := 480335) (mk := 2577479) rfl rfl (by kernel_rfl) rfl rfl (by kernel_rfl) (by kernel_rfl) (ef_call rfl (XF.mono (xr_long _ (by assumption) (fun z hz => by simp [hz])) ?_)) (ef_alloc fun r5 => ⟨(by first | exact Sb.refl | exact Sb.nil | (repeat (first | exact Sb.nil | exact Sb.refl | exact Sb.app0 | apply Sb.keep | apply Sb.keepApp | apply Sb.cons | apply Sb.app))), ?_⟩)
      rotate_left
      rotate_right
      rintro v L' ⟨rfl, o2, ho2, rfl⟩
      refine ⟨(by first | exact Sb.refl | exact Sb.nil | (repeat (first | exact Sb.nil | exact Sb.refl | exact Sb.app0 | apply Sb.keep | apply Sb.keepApp | apply Sb.cons | apply Sb.app))), ?_⟩
      refine xm_take 4 (m' := 480351) rfl (by kernel_rfl) (by first | exact Sb.refl | exact Sb.nil | (repeat (first | exact Sb.nil | exact Sb.refl | exact Sb.app0 | apply Sb.keep | apply Sb.keepApp | apply Sb.cons | apply Sb.app))) (rd_convn rfl (by omega) (by omega)) rfl (by kernel_rfl) ?_
      refine xm_take 5 (m' := 480383) rfl (by kernel_rfl) (by first | exact Sb.refl | exact Sb.nil | (repeat (first | exact Sb.nil | exact Sb.refl | exact Sb.app0 | apply Sb.keep | apply Sb.keepApp | apply Sb.cons | apply Sb.app))) (rd_cast (v' := .int .u64 (vl ((r0.take 4).2.take 4).1 * 4294967296)) (rd_shl rfl rfl (by decide) (by decide)) (congrArg (Value.int .u64) (KB.h (vl ((r0.take 4).2.take 4).1 * 4294967296) (by omega) (by omega)))) rfl (by kernel_rfl) ?_
      refine xm_two 7 21 (mi := 480511) (mk := 2577535) rfl rfl (by kernel_rfl) rfl rfl (by kernel_rfl) (by kernel_rfl) (ef_call rfl (XF.mono (xr_long _ (by assumption) (fun z hz => by simp [hz])) ?_)) (ef_alloc fun r5 => ⟨(by first | exact Sb.refl | exact Sb.nil | (repeat (first | exact Sb.nil | exact Sb.refl | exact Sb.app0 | apply Sb.keep | apply Sb.keepApp | apply Sb.cons | apply Sb.app))), ?_⟩)
      rotate_left
      rotate_right
      rintro v L' ⟨rfl, o2, ho2, rfl⟩
      refine ⟨(by first | exact Sb.refl | exact Sb.nil | (repeat (first | exact Sb.nil | exact Sb.refl | exact Sb.app0 | apply Sb.keep | apply Sb.keepApp | apply Sb.cons | apply Sb.app))), ?_⟩
      refine xm_take 8 (m' := 480767) rfl (by kernel_rfl) (by first | exact Sb.refl | exact Sb.nil | (repeat (first | exact Sb.nil | exact Sb.refl | exact Sb.app0 | apply Sb.keep | apply Sb.keepApp | apply Sb.cons | apply Sb.app))) (rd_convn rfl (by omega) (by omega)) rfl (by kernel_rfl) ?_
      refine xm_take 9 (m' := 481279) rfl (by kernel_rfl) (by first | exact Sb.refl | exact Sb.nil | (repeat (first | exact Sb.nil | exact Sb.refl | exact Sb.app0 | apply Sb.keep | apply Sb.keepApp | apply Sb.cons | apply Sb.app))) (rd_cast (v' := .int .u64 (vl ((r0.take 4).2.take 4).1 * 4294967296 + vl (((r0.take 4).2.take 4).2.take 4).1)) (rd_or rfl rfl) (congrArg (Value.int .u64) (or64_32 _ _ (by omega) (by omega) (by omega) (by omega)))) rfl (by kernel_rfl) ?_
      refine xm_two 11 21 (mi := 483327) (mk := 2578431) rfl rfl (by kernel_rfl) rfl rfl (by kernel_rfl) (by kernel_rfl) (ef_call rfl (XF.mono (xr_long _ (by assumption) (fun z hz => by simp [hz])) ?_)) (ef_alloc fun r5 => ⟨(by first | exact Sb.refl | exact Sb.nil | (repeat (first | exact Sb.nil | exact Sb.refl | exact Sb.app0 | apply Sb.keep | apply Sb.keepApp | apply Sb.cons | apply Sb.app))), ?_⟩)
      rotate_left
      rotate_right
      rintro v L' ⟨rfl, o2, ho2, rfl⟩
      refine ⟨(by first | exact Sb.refl | exact Sb.nil | (repeat (first | exact Sb.nil | exact Sb.refl | exact Sb.app0 | apply Sb.keep | apply Sb.keepApp | apply Sb.cons | apply Sb.app))), ?_⟩
      refine xm_two 13 21 (mi := 491519) (mk := 2580479) rfl rfl (by kernel_rfl) rfl rfl (by kernel_rfl) (by kernel_rfl) (ef_call rfl (XF.mono (xr_long _ (by assumption) (fun z hz => by simp [hz])) ?_)) (ef_alloc fun r5 => ⟨(by first | exact Sb.refl | exact Sb.nil | (repeat (first | exact Sb.nil | exact Sb.refl | exact Sb.app0 | apply Sb.keep | apply Sb.keepApp | apply Sb.cons | apply Sb.app))), ?_⟩)
      rotate_left
      rotate_right
      rintro v L' ⟨rfl, o2, ho2, rfl⟩
      refine ⟨(by first | exact Sb.refl | exact Sb.nil | (repeat (first | exact Sb.nil | exact Sb.refl | exact Sb.app0 | apply Sb.keep | apply Sb.keepApp | apply Sb.cons | apply Sb.app))), ?_⟩
      refine xm_two 15 21 (mi := 524287) (mk := 2588671) rfl rfl (by kernel_rfl) rfl rfl (by kernel_rfl) (by kernel_rfl) (ef_call rfl (XF.mono (xr_long _ (by assumption) (fun z hz => by simp [hz])) ?_)) (ef_alloc fun r5 => ⟨(by first | exact Sb.refl | exact Sb.nil | (repeat (first | exact Sb.nil | exact Sb.refl | exact Sb.app0 | apply Sb.keep | apply Sb.keepApp | apply Sb.cons | apply Sb.app))), ?_⟩)
      rotate_left
      rotate_right
      rintro v L' ⟨rfl, o2, ho2, rfl⟩
      refine ⟨(by first | exact Sb.refl | exact Sb.nil | (repeat (first | exact Sb.nil | exact Sb.refl | exact Sb.app0 | apply Sb.keep | apply Sb.keepApp | apply Sb.cons | apply Sb.app))), ?_⟩
      refine xm_two 19 21 (mi := 1048575) (mk := 2621439) rfl rfl (by kernel_rfl) rfl rfl (by kernel_rfl) (by kernel_rfl) (ef_call rfl (XF.mono (xr_blocksE _ ct (by omega) (by assumption) (fun z hz => by simp [hz])) ?_)) (ef_alloc fun r5 => ⟨(by first | exact Sb.refl | exact Sb.nil | (repeat (first | exact Sb.nil | exact Sb.refl | exact Sb.app0 | apply Sb.keep | apply Sb.keepApp | apply Sb.cons | apply Sb.app))), ?_⟩)
      rotate_left
      rotate_right
      rintro v L' ⟨s, k, lb, o9, rfl, hO, ho9, rfl⟩
      refine ⟨(by first | exact Sb.refl | exact Sb.nil | (repeat (first | exact Sb.nil | exact Sb.refl | exact Sb.app0 | apply Sb.keep | apply Sb.keepApp | apply Sb.cons | apply Sb.app))), ?_⟩
      refine xm_take 20 (m' := 2097151) rfl (by kernel_rfl) (by first | exact Sb.refl | exact Sb.nil | (repeat (first | exact Sb.nil | exact Sb.refl | exact Sb.app0 | apply Sb.keep | apply Sb.keepApp | apply Sb.cons | apply Sb.app))) (rd_build rfl rfl rfl) rfl (by kernel_rfl) ?_
      refine xm_one 21 (m' := 4194303) rfl (by kernel_rfl) rfl (by kernel_rfl) (ef_alloc fun r5 => ?_)
      refine ⟨(by first | exact Sb.refl | exact Sb.nil | (repeat (first | exact Sb.nil | exact Sb.refl | exact Sb.app0 | apply Sb.keep | apply Sb.keepApp | apply Sb.cons | apply Sb.app))), ?_⟩
      refine xm_one 22 (m' := 8388607) rfl (by kernel_rfl) rfl (by kernel_rfl) (ef_storeB [] _ rfl rfl (by first | rfl | assumption) rfl rfl rfl ?_)
      refine ⟨(by first | exact Sb.refl | exact Sb.nil | (repeat (first | exact Sb.nil | exact Sb.refl | exact Sb.app0 | apply Sb.keep | apply Sb.keepApp | apply Sb.cons | apply Sb.app))), ?_⟩
      refine xm_done (by kernel_rfl) ?_
      rotate_left
      refine xm_one 19 (m' := 3145727) rfl (by kernel_rfl) rfl (by kernel_rfl) (ef_call rfl (XF.mono (XF.mid [_] (xr_blocksE _ ct (by omega) (by assumption) (fun z hz => by simp [hz]))) ?_))
      rintro v L' ⟨s, k, lb, o9, rfl, hO, ho9, rfl⟩
      refine xmx_mid [_] ?_
      refine ⟨(by first | exact Sb.refl | exact Sb.nil | (repeat (first | exact Sb.nil | exact Sb.refl | exact Sb.app0 | apply Sb.keep | apply Sb.keepApp | apply Sb.cons | apply Sb.app))), ?_⟩
      refine xm_take 20 (m' := 4194303) rfl (by kernel_rfl) (by first | exact Sb.refl | exact Sb.nil | (repeat (first | exact Sb.nil | exact Sb.refl | exact Sb.app0 | apply Sb.keep | apply Sb.keepApp | apply Sb.cons | apply Sb.app))) (rd_build rfl rfl rfl) rfl (by kernel_rfl) ?_
      refine xm_one 22 (m' := 8388607) rfl (by kernel_rfl) rfl (by kernel_rfl) (ef_storeB [] _ rfl rfl (by first | rfl | assumption) rfl rfl rfl ?_)
      refine ⟨(by first | exact Sb.refl | exact Sb.nil | (repeat (first | exact Sb.nil | exact Sb.refl | exact Sb.app0 | apply Sb.keep | apply Sb.keepApp | apply Sb.cons | apply Sb.app))), ?_⟩
      refine xm_done (by kernel_rfl) ?_
      rotate_left
      refine xm_one 15 (m' := 2621439) rfl (by kernel_rfl) rfl (by kernel_rfl) (ef_call rfl (XF.mono (XF.mid [_] (xr_long _ (by assumption) (fun z hz => by simp [hz]))) ?_))
      rintro v L' ⟨rfl, o2, ho2, rfl⟩
      refine xmx_mid [_] ?_
      refine ⟨(by first | exact Sb.refl | exact Sb.nil | (repeat (first | exact Sb.nil | exact Sb.refl | exact Sb.app0 | apply Sb.keep | apply Sb.keepApp | apply Sb.cons | apply Sb.app))), ?_⟩
      refine xm_one 19 (m' := 3145727) rfl (by kernel_rfl) rfl (by kernel_rfl) (ef_call rfl (XF.mono (XF.mid [_] (xr_blocksE _ ct (by omega) (by assumption) (fun z hz => by simp [hz]))) ?_))
      rintro v L' ⟨s, k, lb, o9, rfl, hO, ho9, rfl⟩
      refine xmx_mid [_] ?_
      refine ⟨(by first | exact Sb.refl | exact Sb.nil | (repeat (first | exact Sb.nil | exact Sb.refl | exact Sb.app0 | apply Sb.keep | apply Sb.keepApp | apply Sb.cons | apply Sb.app))), ?_⟩
      refine xm_take 20 (m' := 4194303) rfl (by kernel_rfl) (by first | exact Sb.refl | exact Sb.nil | (repeat (first | exact Sb.nil | exact Sb.refl | exact Sb.app0 | apply Sb.keep | apply Sb.keepApp | apply Sb.cons | apply Sb.app))) (rd_build rfl rfl rfl) rfl (by kernel_rfl) ?_
      refine xm_one 22 (m' := 8388607) rfl (by kernel_rfl) rfl (by kernel_rfl) (ef_storeB [] _ rfl rfl (by first | rfl | assumption) rfl rfl rfl ?_)
      refine ⟨(by first | exact Sb.refl | exact Sb.nil | (repeat (first | exact Sb.nil | exact Sb.refl | exact Sb.app0 | apply Sb.keep | apply Sb.keepApp | apply Sb.cons | apply Sb.app))), ?_⟩
      refine xm_done (by kernel_rfl) ?_
      rotate_left
      refine xm_one 13 (m' := 2588671) rfl (by kernel_rfl) rfl (by kernel_rfl) (ef_call rfl (XF.mono (XF.mid [_] (xr_long _ (by assumption) (fun z hz => by simp [hz]))) ?_))
      rintro v L' ⟨rfl, o2, ho2, rfl⟩
      refine xmx_mid [_] ?_
      refine ⟨(by first | exact Sb.refl | exact Sb.nil | (repeat (first | exact Sb.nil | exact Sb.refl | exact Sb.app0 | apply Sb.keep | apply Sb.keepApp | apply Sb.cons | apply Sb.app))), ?_⟩
      refine xm_one 15 (m' := 2621439) rfl (by kernel_rfl) rfl (by kernel_rfl) (ef_call rfl (XF.mono (XF.mid [_] (xr_long _ (by assumption) (fun z hz => by simp [hz]))) ?_))
      rintro v L' ⟨rfl, o2, ho2, rfl⟩
      refine xmx_mid [_] ?_
      refine ⟨(by first | exact Sb.refl | exact Sb.nil | (repeat (first | exact Sb.nil | exact Sb.refl | exact Sb.app0 | apply Sb.keep | apply Sb.keepApp | apply Sb.cons | apply Sb.app))), ?_⟩
      refine xm_one 19 (m' := 3145727) rfl (by kernel_rfl) rfl (by kernel_rfl) (ef_call rfl (XF.mono (XF.mid [_] (xr_blocksE _ ct (by omega) (by assumption) (fun z hz => by simp [hz]))) ?_))
      rintro v L' ⟨s, k, lb, o9, rfl, hO, ho9, rfl⟩
      refine xmx_mid [_] ?_
      refine ⟨(by first | exact Sb.refl | exact Sb.nil | (repeat (first | exact Sb.nil | exact Sb.refl | exact Sb.app0 | apply Sb.keep | apply Sb.keepApp | apply Sb.cons | apply Sb.app))), ?_⟩
      refine xm_take 20 (m' := 4194303) rfl (by kernel_rfl) (by first | exact Sb.refl | exact Sb.nil | (repeat (first | exact Sb.nil | exact Sb.refl | exact Sb.app0 | apply Sb.keep | apply Sb.keepApp | apply Sb.cons | apply Sb.app))) (rd_build rfl rfl rfl) rfl (by kernel_rfl) ?_
      refine xm_one 22 (m' := 8388607) rfl (by kernel_rfl) rfl (by kernel_rfl) (ef_storeB [] _ rfl rfl (by first | rfl | assumption) rfl rfl rfl ?_)
      refine ⟨(by first | exact Sb.refl | exact Sb.nil | (repeat (first | exact Sb.nil | exact Sb.refl | exact Sb.app0 | apply Sb.keep | apply Sb.keepApp | apply Sb.cons | apply Sb.app))), ?_⟩
      refine xm_done (by kernel_rfl) ?_
      rotate_left
      refine xm_one 11 (m' := 2580479) rfl (by kernel_rfl) rfl (by kernel_rfl) (ef_call rfl (XF.mono (XF.mid [_] (xr_long _ (by assumption) (fun z hz => by simp [hz]))) ?_))
      rintro v L' ⟨rfl, o2, ho2, rfl⟩
      refine xmx_mid [_] ?_
      refine ⟨(by first | exact Sb.refl | exact Sb.nil | (repeat (first | exact Sb.nil | exact Sb.refl | exact Sb.app0 | apply Sb.keep | apply Sb.keepApp | apply Sb.cons | apply Sb.app))), ?_⟩
      refine xm_one 13 (m' := 2588671) rfl (by kernel_rfl) rfl (by kernel_rfl) (ef_call rfl (XF.mono (XF.mid [_] (xr_long _ (by assumption) (fun z hz => by simp [hz]))) ?_))
      rintro v L' ⟨rfl, o2, ho2, rfl⟩
      refine xmx_mid [_] ?_
      refine ⟨(by first | exact Sb.refl | exact Sb.nil | (repeat (first | exact Sb.nil | exact Sb.refl | exact Sb.app0 | apply Sb.keep | apply Sb.keepApp | apply Sb.cons | apply Sb.app))), ?_⟩
      refine xm_one 15 (m' := 2621439) rfl (by kernel_rfl) rfl (by kernel_rfl) (ef_call rfl (XF.mono (XF.mid [_] (xr_long _ (by assumption) (fun z hz => by simp [hz]))) ?_))
      rintro v L' ⟨rfl, o2, ho2, rfl⟩
      refine xmx_mid [_] ?_
      refine ⟨(by first | exact Sb.refl | exact Sb.nil | (repeat (first | exact Sb.nil | exact Sb.refl | exact Sb.app0 | apply Sb.keep | apply Sb.keepApp | apply Sb.cons | apply Sb.app))), ?_⟩
      refine xm_one 19 (m' := 3145727) rfl (by kernel_rfl) rfl (by kernel_rfl) (ef_call rfl (XF.mono (XF.mid [_] (xr_blocksE _ ct (by omega) (by assumption) (fun z hz => by simp [hz]))) ?_))
      rintro v L' ⟨s, k, lb, o9, rfl, hO, ho9, rfl⟩
      refine xmx_mid [_] ?_
      refine ⟨(by first | exact Sb.refl | exact Sb.nil | (repeat (first | exact Sb.nil | exact Sb.refl | exact Sb.app0 | apply Sb.keep | apply Sb.keepApp | apply Sb.cons | apply Sb.app))), ?_⟩
      refine xm_take 20 (m' := 4194303) rfl (by kernel_rfl) (by first | exact Sb.refl | exact Sb.nil | (repeat (first | exact Sb.nil | exact Sb.refl | exact Sb.app0 | apply Sb.keep | apply Sb.keepApp | apply Sb.cons | apply Sb.app))) (rd_build rfl rfl rfl) rfl (by kernel_rfl) ?_
      refine xm_one 22 (m' := 8388607) rfl (by kernel_rfl) rfl (by kernel_rfl) (ef_storeB [] _ rfl rfl (by first | rfl | assumption) rfl rfl rfl ?_)
      refine ⟨(by first | exact Sb.refl | exact Sb.nil | (repeat (first | exact Sb.nil | exact Sb.refl | exact Sb.app0 | apply Sb.keep | apply Sb.keepApp | apply Sb.cons | apply Sb.app))), ?_⟩
      refine xm_done (by kernel_rfl) ?_
      rotate_left
      refine xm_one 7 (m' := 2577663) rfl (by kernel_rfl) rfl (by kernel_rfl) (ef_call rfl (XF.mono (XF.mid [_] (xr_long _ (by assumption) (fun z hz => by simp [hz]))) ?_))
      rintro v L' ⟨rfl, o2, ho2, rfl⟩
      refine xmx_mid [_] ?_
      refine ⟨(by first | exact Sb.refl | exact Sb.nil | (repeat (first | exact Sb.nil | exact Sb.refl | exact Sb.app0 | apply Sb.keep | apply Sb.keepApp | apply Sb.cons | apply Sb.app))), ?_⟩
      refine xm_take 8 (m' := 2577919) rfl (by kernel_rfl) (by first | exact Sb.refl | exact Sb.nil | (repeat (first | exact Sb.nil | exact Sb.refl | exact Sb.app0 | apply Sb.keep | apply Sb.keepApp | apply Sb.cons | apply Sb.app))) (rd_convn rfl (by omega) (by omega)) rfl (by kernel_rfl) ?_
      refine xm_take 9 (m' := 2578431) rfl (by kernel_rfl) (by first | exact Sb.refl | exact Sb.nil | (repeat (first | exact Sb.nil | exact Sb.refl | exact Sb.app0 | apply Sb.keep | apply Sb.keepApp | apply Sb.cons | apply Sb.app))) (rd_cast (v' := .int .u64 (vl ((r0.take 4).2.take 4).1 * 4294967296 + vl (((r0.take 4).2.take 4).2.take 4).1)) (rd_or rfl rfl) (congrArg (Value.int .u64) (or64_32 _ _ (by omega) (by omega) (by omega) (by omega)))) rfl (by kernel_rfl) ?_
      refine xm_one 11 (m' := 2580479) rfl (by kernel_rfl) rfl (by kernel_rfl) (ef_call rfl (XF.mono (XF.mid [_] (xr_long _ (by assumption) (fun z hz => by simp [hz]))) ?_))
      rintro v L' ⟨rfl, o2, ho2, rfl⟩
      refine xmx_mid [_] ?_
      refine ⟨(by first | exact Sb.refl | exact Sb.nil | (repeat (first | exact Sb.nil | exact Sb.refl | exact Sb.app0 | apply Sb.keep | apply Sb.keepApp | apply Sb.cons | apply Sb.app))), ?_⟩
      refine xm_one 13 (m' := 2588671) rfl (by kernel_rfl) rfl (by kernel_rfl) (ef_call rfl (XF.mono (XF.mid [_] (xr_long _ (by assumption) (fun z hz => by simp [hz]))) ?_))
      rintro v L' ⟨rfl, o2, ho2, rfl⟩
      refine xmx_mid [_] ?_
      refine ⟨(by first | exact Sb.refl | exact Sb.nil | (repeat (first | exact Sb.nil | exact Sb.refl | exact Sb.app0 | apply Sb.keep | apply Sb.keepApp | apply Sb.cons | apply Sb.app))), ?_⟩
      refine xm_one 15 (m' := 2621439) rfl (by kernel_rfl) rfl (by kernel_rfl) (ef_call rfl (XF.mono (XF.mid [_] (xr_long _ (by assumption) (fun z hz => by simp [hz]))) ?_))
      rintro v L' ⟨rfl, o2, ho2, rfl⟩
      refine xmx_mid [_] ?_
      refine ⟨(by first | exact Sb.refl | exact Sb.nil | (repeat (first | exact Sb.nil | exact Sb.refl | exact Sb.app0 | apply Sb.keep | apply Sb.keepApp | apply Sb.cons | apply Sb.app))), ?_⟩
      refine xm_one 19 (m' := 3145727) rfl (by kernel_rfl) rfl (by kernel_rfl) (ef_call rfl (XF.mono (XF.mid [_] (xr_blocksE _ ct (by omega) (by assumption) (fun z hz => by simp [hz]))) ?_))
      rintro v L' ⟨s, k, lb, o9, rfl, hO, ho9, rfl⟩
      refine xmx_mid [_] ?_
      refine ⟨(by first | exact Sb.refl | exact Sb.nil | (repeat (first | exact Sb.nil | exact Sb.refl | exact Sb.app0 | apply Sb.keep | apply Sb.keepApp | apply Sb.cons | apply Sb.app))), ?_⟩
      refine xm_take 20 (m' := 4194303) rfl (by kernel_rfl) (by first | exact Sb.refl | exact Sb.nil | (repeat (first | exact Sb.nil | exact Sb.refl | exact Sb.app0 | apply Sb.keep | apply Sb.keepApp | apply Sb.cons | apply Sb.app))) (rd_build rfl rfl rfl) rfl (by kernel_rfl) ?_
      refine xm_one 22 (m' := 8388607) rfl (by kernel_rfl) rfl (by kernel_rfl) (ef_storeB [] _ rfl rfl (by first | rfl | assumption) rfl rfl rfl ?_)
      refine ⟨(by first | exact Sb.refl | exact Sb.nil | (repeat (first | exact Sb.nil | exact Sb.refl | exact Sb.app0 | apply Sb.keep | apply Sb.keepApp | apply Sb.cons | apply Sb.app))), ?_⟩
      refine xm_done (by kernel_rfl) ?_
      rotate_left
      refine xm_one 3 (m' := 2577487) rfl (by kernel_rfl) rfl (by kernel_rfl) (ef_call rfl (XF.mono (XF.mid [_] (xr_long _ (by assumption) (fun z hz => by simp [hz]))) ?_))
      rintro v L' ⟨rfl, o2, ho2, rfl⟩
      refine xmx_mid [_] ?_
      refine ⟨(by first | exact Sb.refl | exact Sb.nil | (repeat (first | exact Sb.nil | exact Sb.refl | exact Sb.app0 | apply Sb.keep | apply Sb.keepApp | apply Sb.cons | apply Sb.app))), ?_⟩
      refine xm_take 4 (m' := 2577503) rfl (by kernel_rfl) (by first | exact Sb.refl | exact Sb.nil | (repeat (first | exact Sb.nil | exact Sb.refl | exact Sb.app0 | apply Sb.keep | apply Sb.keepApp | apply Sb.cons | apply Sb.app))) (rd_convn rfl (by omega) (by omega)) rfl (by kernel_rfl) ?_
      refine xm_take 5 (m' := 2577535) rfl (by kernel_rfl) (by first | exact Sb.refl | exact Sb.nil | (repeat (first | exact Sb.nil | exact Sb.refl | exact Sb.app0 | apply Sb.keep | apply Sb.keepApp | apply Sb.cons | apply Sb.app))) (rd_cast (v' := .int .u64 (vl ((r0.take 4).2.take 4).1 * 4294967296)) (rd_shl rfl rfl (by decide) (by decide)) (congrArg (Value.int .u64) (KB.h (vl ((r0.take 4).2.take 4).1 * 4294967296) (by omega) (by omega)))) rfl (by kernel_rfl) ?_
      refine xm_one 7 (m' := 2577663) rfl (by kernel_rfl) rfl (by kernel_rfl) (ef_call rfl (XF.mono (XF.mid [_] (xr_long _ (by assumption) (fun z hz => by simp [hz]))) ?_))
      rintro v L' ⟨rfl, o2, ho2, rfl⟩
      refine xmx_mid [_] ?_
      refine ⟨(by first | exact Sb.refl | exact Sb.nil | (repeat (first | exact Sb.nil | exact Sb.refl | exact Sb.app0 | apply Sb.keep | apply Sb.keepApp | apply Sb.cons | apply Sb.app))), ?_⟩
      refine xm_take 8 (m' := 2577919) rfl (by kernel_rfl) (by first | exact Sb.refl | exact Sb.nil | (repeat (first | exact Sb.nil | exact Sb.refl | exact Sb.app0 | apply Sb.keep | apply Sb.keepApp | apply Sb.cons | apply Sb.app))) (rd_convn rfl (by omega) (by omega)) rfl (by kernel_rfl) ?_
      refine xm_take 9 (m' := 2578431) rfl (by kernel_rfl) (by first | exact Sb.refl | exact Sb.nil | (repeat (first | exact Sb.nil | exact Sb.refl | exact Sb.app0 | apply Sb.keep | apply Sb.keepApp | apply Sb.cons | apply Sb.app))) (rd_cast (v' := .int .u64 (vl ((r0.take 4).2.take 4).1 * 4294967296 + vl (((r0.take 4).2.take 4).2.take 4).1)) (rd_or rfl rfl) (congrArg (Value.int .u64) (or64_32 _ _ (by omega) (by omega) (by omega) (by omega)))) rfl (by kernel_rfl) ?_
      refine xm_one 11 (m' := 2580479) rfl (by kernel_rfl) rfl (by kernel_rfl) (ef_call rfl (XF.mono (XF.mid [_] (xr_long _ (by assumption) (fun z hz => by simp [hz]))) ?_))
      rintro v L' ⟨rfl, o2, ho2, rfl⟩
      refine xmx_mid [_] ?_
      refine ⟨(by first | exact Sb.refl | exact Sb.nil | (repeat (first | exact Sb.nil | exact Sb.refl | exact Sb.app0 | apply Sb.keep | apply Sb.keepApp | apply Sb.cons | apply Sb.app))), ?_⟩
      refine xm_one 13 (m' := 2588671) rfl (by kernel_rfl) rfl (by kernel_rfl) (ef_call rfl (XF.mono (XF.mid [_] (xr_long _ (by assumption) (fun z hz => by simp [hz]))) ?_))
      rintro v L' ⟨rfl, o2, ho2, rfl⟩
      refine xmx_mid [_] ?_
      refine ⟨(by first | exact Sb.refl | exact Sb.nil | (repeat (first | exact Sb.nil | exact Sb.refl | exact Sb.app0 | apply Sb.keep | apply Sb.keepApp | apply Sb.cons | apply Sb.app))), ?_⟩
      refine xm_one 15 (m' := 2621439) rfl (by kernel_rfl) rfl (by kernel_rfl) (ef_call rfl (XF.mono (XF.mid [_] (xr_long _ (by assumption) (fun z hz => by simp [hz]))) ?_))
      rintro v L' ⟨rfl, o2, ho2, rfl⟩
      refine xmx_mid [_] ?_
      refine ⟨(by first | exact Sb.refl | exact Sb.nil | (repeat (first | exact Sb.nil | exact Sb.refl | exact Sb.app0 | apply Sb.keep | apply Sb.keepApp | apply Sb.cons | apply Sb.app))), ?_⟩
      refine xm_one 19 (m' := 3145727) rfl (by kernel_rfl) rfl (by kernel_rfl) (ef_call rfl (XF.mono (XF.mid [_] (xr_blocksE _ ct (by omega) (by assumption) (fun z hz => by simp [hz]))) ?_))
      rintro v L' ⟨s, k, lb, o9, rfl, hO, ho9, rfl⟩
      refine xmx_mid [_] ?_
      refine ⟨(by first | exact Sb.refl | exact Sb.nil | (repeat (first | exact Sb.nil | exact Sb.refl | exact Sb.app0 | apply Sb.keep | apply Sb.keepApp | apply Sb.cons | apply Sb.app))), ?_⟩
      refine xm_take 20 (m' := 4194303) rfl (by kernel_rfl) (by first | exact Sb.refl | exact Sb.nil | (repeat (first | exact Sb.nil | exact Sb.refl | exact Sb.app0 | apply Sb.keep | apply Sb.keepApp | apply Sb.cons | apply Sb.app))) (rd_build rfl rfl rfl) rfl (by kernel_rfl) ?_
      refine xm_one 22 (m' := 8388607) rfl (by kernel_rfl) rfl (by kernel_rfl) (ef_storeB [] _ rfl rfl (by first | rfl | assumption) rfl rfl rfl ?_)
      refine ⟨(by first | exact Sb.refl | exact Sb.nil | (repeat (first | exact Sb.nil | exact Sb.refl | exact Sb.app0 | apply Sb.keep | apply Sb.keepApp | apply Sb.cons | apply Sb.app))), ?_⟩
      refine xm_done (by kernel_rfl) ?_
      rotate_left
      refine xm_one 1 (m' := 2577479) rfl (by kernel_rfl) rfl (by kernel_rfl) (ef_call rfl (XF.mono (XF.mid [_] (xr_long _ (by assumption) (fun z hz => by simp [hz]))) ?_))
      rintro v L' ⟨rfl, o2, ho2, rfl⟩
      refine xmx_mid [_] ?_
      refine ⟨(by first | exact Sb.refl | exact Sb.nil | (repeat (first | exact Sb.nil | exact Sb.refl | exact Sb.app0 | apply Sb.keep | apply Sb.keepApp | apply Sb.cons | apply Sb.app))), ?_⟩
      refine xm_one 3 (m' := 2577487) rfl (by kernel_rfl) rfl (by kernel_rfl) (ef_call rfl (XF.mono (XF.mid [_] (xr_long _ (by assumption) (fun z hz => by simp [hz]))) ?_))
      rintro v L' ⟨rfl, o2, ho2, rfl⟩
      refine xmx_mid [_] ?_
      refine ⟨(by first | exact Sb.refl | exact Sb.nil | (repeat (first | exact Sb.nil | exact Sb.refl | exact Sb.app0 | apply Sb.keep | apply Sb.keepApp | apply Sb.cons | apply Sb.app))), ?_⟩
      refine xm_take 4 (m' := 2577503) rfl (by kernel_rfl) (by first | exact Sb.refl | exact Sb.nil | (repeat (first | exact Sb.nil | exact Sb.refl | exact Sb.app0 | apply Sb.keep | apply Sb.keepApp | apply Sb.cons | apply Sb.app))) (rd_convn rfl (by omega) (by omega)) rfl (by kernel_rfl) ?_
      refine xm_take 5 (m' := 2577535) rfl (by kernel_rfl) (by first | exact Sb.refl | exact Sb.nil | (repeat (first | exact Sb.nil | exact Sb.refl | exact Sb.app0 | apply Sb.keep | apply Sb.keepApp | apply Sb.cons | apply Sb.app))) (rd_cast (v' := .int .u64 (vl ((r0.take 4).2.take 4).1 * 4294967296)) (rd_shl rfl rfl (by decide) (by decide)) (congrArg (Value.int .u64) (KB.h (vl ((r0.take 4).2.take 4).1 * 4294967296) (by omega) (by omega)))) rfl (by kernel_rfl) ?_
      refine xm_one 7 (m' := 2577663) rfl (by kernel_rfl) rfl (by kernel_rfl) (ef_call rfl (XF.mono (XF.mid [_] (xr_long _ (by assumption) (fun z hz => by simp [hz]))) ?_))
      rintro v L' ⟨rfl, o2, ho2, rfl⟩
      refine xmx_mid [_] ?_
      refine ⟨(by first | exact Sb.refl | exact Sb.nil | (repeat (first | exact Sb.nil | exact Sb.refl | exact Sb.app0 | apply Sb.keep | apply Sb.keepApp | apply Sb.cons | apply Sb.app))), ?_⟩
      refine xm_take 8 (m' := 2577919) rfl (by kernel_rfl) (by first | exact Sb.refl | exact Sb.nil | (repeat (first | exact Sb.nil | exact Sb.refl | exact Sb.app0 | apply Sb.keep | apply Sb.keepApp | apply Sb.cons | apply Sb.app))) (rd_convn rfl (by omega) (by omega)) rfl (by kernel_rfl) ?_
      refine xm_take 9 (m' := 2578431) rfl (by kernel_rfl) (by first | exact Sb.refl | exact Sb.nil | (repeat (first | exact Sb.nil | exact Sb.refl | exact Sb.app0 | apply Sb.keep | apply Sb.keepApp | apply Sb.cons | apply Sb.app))) (rd_cast (v' := .int .u64 (vl ((r0.take 4).2.take 4).1 * 4294967296 + vl (((r0.take 4).2.take 4).2.take 4).1)) (rd_or rfl rfl) (congrArg (Value.int .u64) (or64_32 _ _ (by omega) (by omega) (by omega) (by omega)))) rfl (by kernel_rfl) ?_
      refine xm_one 11 (m' := 2580479) rfl (by kernel_rfl) rfl (by kernel_rfl) (ef_call rfl (XF.mono (XF.mid [_] (xr_long _ (by assumption) (fun z hz => by simp [hz]))) ?_))
      rintro v L' ⟨rfl, o2, ho2, rfl⟩
      refine xmx_mid [_] ?_
      refine ⟨(by first | exact Sb.refl | exact Sb.nil | (repeat (first | exact Sb.nil | exact Sb.refl | exact Sb.app0 | apply Sb.keep | apply Sb.keepApp | apply Sb.cons | apply Sb.app))), ?_⟩
      refine xm_one 13 (m' := 2588671) rfl (by kernel_rfl) rfl (by kernel_rfl) (ef_call rfl (XF.mono (XF.mid [_] (xr_long _ (by assumption) (fun z hz => by simp [hz]))) ?_))
      rintro v L' ⟨rfl, o2, ho2, rfl⟩
      refine xmx_mid [_] ?_
      refine ⟨(by first | exact Sb.refl | exact Sb.nil | (repeat (first | exact Sb.nil | exact Sb.refl | exact Sb.app0 | apply Sb.keep | apply Sb.keepApp | apply Sb.cons | apply Sb.app))), ?_⟩
      refine xm_one 15 (m' := 2621439) rfl (by kernel_rfl) rfl (by kernel_rfl) (ef_call rfl (XF.mono (XF.mid [_] (xr_long _ (by assumption) (fun z hz => by simp [hz]))) ?_))
      rintro v L' ⟨rfl, o2, ho2, rfl⟩
      refine xmx_mid [_] ?_
      refine ⟨(by first | exact Sb.refl | exact Sb.nil | (repeat (first | exact Sb.nil | exact Sb.refl | exact Sb.app0 | apply Sb.keep | apply Sb.keepApp | apply Sb.cons | apply Sb.app))), ?_⟩
      refine xm_one 19 (m' := 3145727) rfl (by kernel_rfl) rfl (by kernel_rfl) (ef_call rfl (XF.mono (XF.mid [_] (xr_blocksE _ ct (by omega) (by assumption) (fun z hz => by simp [hz]))) ?_))
      rintro v L' ⟨s, k, lb, o9, rfl, hO, ho9, rfl⟩
      refine xmx_mid [_] ?_
      refine ⟨(by first | exact Sb.refl | exact Sb.nil | (repeat (first | exact Sb.nil | exact Sb.refl | exact Sb.app0 | apply Sb.keep | apply Sb.keepApp | apply Sb.cons | apply Sb.app))), ?_⟩
      refine xm_take 20 (m' := 4194303) rfl (by kernel_rfl) (by first | exact Sb.refl | exact Sb.nil | (repeat (first | exact Sb.nil | exact Sb.refl | exact Sb.app0 | apply Sb.keep | apply Sb.keepApp | apply Sb.cons | apply Sb.app))) (rd_build rfl rfl rfl) rfl (by kernel_rfl) ?_
      refine xm_one 22 (m' := 8388607) rfl (by kernel_rfl) rfl (by kernel_rfl) (ef_storeB [] _ rfl rfl (by first | rfl | assumption) rfl rfl rfl ?_)
      refine ⟨(by first | exact Sb.refl | exact Sb.nil | (repeat (first | exact Sb.nil | exact Sb.refl | exact Sb.app0 | apply Sb.keep | apply Sb.keepApp | apply Sb.cons | apply Sb.app))), ?_⟩
      refine xm_done (by kernel_rfl) ?_
      rotate_left
    all_goals exact xq_joined (⟨r5, o9, s, k, lb⟩ : OfS) ⟨ho9, hO⟩ rfl (by repeat (first | exact keep_nil | refine keep_cons rfl ?_))
  · rintro ⟨r5, o9, s, k, lb⟩ ⟨ho9, hO⟩
    dsimp only at ho9 hO ⊢
    generalize hz : r0.sn ct = z at *
    generalize he : toldE ⟨ct, kd, bd, pd⟩ z.2 200 false = e at *
    have htold : ∀ R, XF Try.prog W 65 #[.pointer (some ⟨r10, 0, none⟩), .agg (Pb.enc ⟨⟨ct, kd, bd, pd⟩, xp, xc, xl⟩).toArray, .int .u8 200, .bool false] ((r10, o9) :: R) (fun v L' => v = .int .i64 e ∧ L' = (r10, o9) :: R) := fun R => by
      have := xr_told (L := R) r10 ho9 ⟨⟨ct, kd, bd, pd⟩, xp, xc, xl⟩ 200 false
      rwa [he] at this
    by_cases h0 : e = 0
    · subst h0
      rw [if_pos rfl]
      focus
        refine xc_seq ?_
        refine xc_seq ?_
        refine xc_region ?_
        refine xo_rd (rd_move rfl) rfl ?_
        refine xo_rd (rd_loadB rfl Kn.o3 (by rfl)) rfl ?_
        refine xo_ef rfl (ef_call rfl (XF.mono (XF.mid [_] (htold _)) ?_))
        rintro v L' ⟨rfl, rfl⟩
        refine xo_mid [_] ?_
        refine xo_rd (rd_assign rfl) rfl ?_
        refine xo_nil ?_
        refine xq_seq ?_
        refine xc_seq ?_
        refine xc_region ?_
        refine xo_rd (rd_move rfl) rfl ?_
        refine xo_rd (rd_neq rfl rfl) rfl ?_
        refine xo_nil ?_
        refine xq_seq ?_
        refine xc_condf rfl ?_
        refine xc_skip ?_
        refine xq_seq ?_
        refine xc_seq ?_
        refine xc_region ?_
        refine xo_rd (rd_loadB rfl Kn.o0 (by rfl)) rfl ?_
        refine xo_ef rfl (ef_storeB [_, _] _ rfl rfl (by first | rfl | assumption) rfl rfl rfl ?_)
        refine xo_rd (rd_assign rfl) rfl ?_
        refine xo_nil ?_
        refine xq_seq ?_
        refine xc_ret ?_
      refine xq_sub (L' := (r2, .cells (z.1.enc (.slice s ct k)).toArray 53 (0, 0)) :: (L ++ lb)) (.cons _ (.cons _ (.cons_cons _ (.cons _ (List.Sublist.refl _))))) (xq_perm (List.Perm.cons _ List.perm_append_comm) (xq_retB2 (.inl rfl) Try.results37 rfl rfl Kn.o0 rfl (List.sublist_cons_self _ _) ⟨s, k, lb, ?_, ?_, rfl⟩))
      · rw [hbl]
      · rw [hbl]; exact hO
    · rw [if_neg h0]
      focus
        refine xc_seq ?_
        refine xc_seq ?_
        refine xc_region ?_
        refine xo_rd (rd_move rfl) rfl ?_
        refine xo_rd (rd_loadB rfl Kn.o3 (by rfl)) rfl ?_
        refine xo_ef rfl (ef_call rfl (XF.mono (XF.mid [_] (htold _)) ?_))
        rintro v L' ⟨rfl, rfl⟩
        refine xo_mid [_] ?_
        refine xo_rd (rd_assign rfl) rfl ?_
        refine xo_nil ?_
        refine xq_seq ?_
        refine xc_seq ?_
        refine xc_region ?_
        refine xo_rd (rd_move rfl) rfl ?_
        refine xo_rd (rd_neq rfl rfl) rfl ?_
        refine xo_nil ?_
        refine xq_seq ?_
        refine xc_ndec rfl (fun h1 => ?_) (fun h1 => (by exfalso; omega))
        refine xc_seq ?_
        refine xc_region ?_
        refine xo_rd (rd_build rfl rfl rfl) rfl ?_
        refine xo_rd (rd_move rfl) rfl ?_
        refine xo_ef rfl (ef_storeB [_, _] _ rfl rfl (by first | rfl | assumption) rfl rfl rfl ?_)
        refine xo_rd (rd_assign rfl) rfl ?_
        refine xo_nil ?_
        refine xq_seq ?_
        refine xc_ret ?_
        refine xq_then_ret ?_
      exact xq_retB2 (.inl rfl) Try.results37 rfl rfl Kn.o2 rfl ((List.sublist_append_left L lb).trans (.cons _ (.cons _ (.cons _ (.cons _ (List.Sublist.refl _)))))) (SnM.err e)
def Rd.rc (r : Rd) (n : Nat) : (Int × List Bk) × Rd := ((vl (r.take 4).1, (Rd.blks n (r.take 4).2).1), (Rd.blks n (r.take 4).2).2)
def ofRc (q : Pc) : (Int × List Bk) × Int := if toldE q ((rd0 q).rc q.ct.toNat).2 201 false = 0 then (((rd0 q).rc q.ct.toNat).1, 0) else ((0, []), toldE q ((rd0 q).rc q.ct.toNat).2 201 false)
/-- What a receiver that is told is. -/
def RcM (L : List Blk) (z : (Int × List Bk) × Int) (v : Value) (L' : List Blk) : Prop :=
  ∃ s k l, v = .tuple #[.agg #[.int .u32 z.1.1, .slice s z.1.2.length k], .int .i64 z.2] ∧ SlO 7 95 (.slice s z.1.2.length k) z.1.2.length (z.1.2.flatMap Bk.enc) l ∧ L' = l ++ L
theorem RcM.err {L : List Blk} (e : Int) : RcM L ((0, []), e) (.tuple #[.agg #[.int .u32 0, .slice none 0 0], .int .i64 e]) L := ⟨none, 0, [], rfl, SlO.nil, rfl⟩
set_option maxHeartbeats 8000000 in
theorem xf_ofReceiver {W : World} {L : List Blk} (x : Pb) (hr : Rs W L x.p (ints .u8 x.q.bd)) (hg : x.q.Rg) (hc : x.q.bd.length ≤ x.c) (hn : x.q.bd.length ≤ 1000000) :
    XF Try.prog W 38 #[.agg x.enc.toArray] L (RcM L (ofRc x.q)) := by
  refine xf_enter (args := [_]) Try.func38 rfl Try.ntmps38 rfl ?_
  have hB := rd0_B hr hg hc hn
  have hct := hg.ct
  unfold By at hct
  obtain ⟨⟨ct', kd, bd, pd⟩, xp, xc, xl⟩ := x
  dsimp only at hct hB hr hc hn hg
  obtain ⟨ct, rfl⟩ : ∃ ct : Nat, ct' = ct := ⟨ct'.toNat, by omega⟩
  unfold ofRc
  dsimp only
  rw [show (ct : Int).toNat = ct from rfl]
  generalize hq : (⟨ct, kd, bd, pd⟩ : Pc) = q at *
  generalize hr0 : rd0 q = r0 at *
  subst hq
  unfold Pb.enc Pc.enc
  dsimp only
  focus
    refine xc_seq ?_
    refine xc_region ?_
    refine xo_ef rfl (ef_box rfl fun r1 => ?_)
    refine xo_ef rfl (ef_alloc fun r2 => ?_)
    refine xo_rd (rd_assign rfl) rfl ?_
    refine xo_nil ?_
    refine xq_seq ?_
    refine xc_seq ?_
    refine xc_region ?_
    refine xo_rd (rd_fieldAddr rfl) rfl ?_
    refine xo_rd (rd_load1 rfl (Cl.o1 rfl)) rfl ?_
    refine xo_rd (rd_build rfl rfl rfl) rfl ?_
    refine xo_ef rfl (ef_box rfl fun r10 => ?_)
    refine xo_rd (rd_assign rfl) rfl ?_
    refine xo_nil ?_
    refine xq_seq ?_
  have hbl : (r0.rc ct).1.2.length = ct := Rd.blks_len _ _
  refine xc_join (ι := OfS) (fun z => RdB W L (r0.rc ct).2 z.o ∧ SlO 7 95 (.slice z.s ct z.k) ct ((r0.rc ct).1.2.flatMap Bk.enc) z.l)
    (fun z => (z.r, .cells #[.int .u32 (r0.rc ct).1.1, .slice z.s ct z.k] 60 (0, 0)) :: (r10, z.o) :: (r2, .cells #[.int .u32 0, .slice none 0 0] 60 (0, 0)) :: (r1, .cells #[.int .u8 ct, .int .u8 kd, .slice xp bd.length xc, .int .u8 pd] 35 (0, 0)) :: (L ++ z.l))
    (fun z => [(1, .pointer (some ⟨r1, 0, none⟩)), (2, .pointer (some ⟨r2, 0, none⟩)), (4, .pointer (some ⟨r10, 0, none⟩)), (5, .pointer (some ⟨z.r, 0, none⟩))]) ?_ ?_
  · focus
      refine xc_drawM [0, 1, 0, 0, 8, 22, 34, 0, 255] [0, 1, 0, 0, 8, 22, 34, 0, 255] ([(r1, .cells #[.int .u8 ct, .int .u8 kd, .slice xp bd.length xc, .int .u8 pd] 35 (0, 0))]) (by kernel_rfl) (by kernel_rfl) (by kernel_rfl) ?_
      refine xm_take 0 (m' := 1) rfl (by kernel_rfl) (by first | exact Sb.refl | exact Sb.nil | (repeat (first | exact Sb.nil | exact Sb.refl | exact Sb.app0 | apply Sb.keep | apply Sb.keepApp | apply Sb.cons | apply Sb.app))) (rd_move rfl) rfl (by kernel_rfl) ?_
      refine xm_take 2 (m' := 5) rfl (by kernel_rfl) (by first | exact Sb.refl | exact Sb.nil | (repeat (first | exact Sb.nil | exact Sb.refl | exact Sb.app0 | apply Sb.keep | apply Sb.keepApp | apply Sb.cons | apply Sb.app))) (rd_move rfl) rfl (by kernel_rfl) ?_
      refine xm_take 3 (m' := 13) rfl (by kernel_rfl) (by first | exact Sb.refl | exact Sb.nil | (repeat (first | exact Sb.nil | exact Sb.refl | exact Sb.app0 | apply Sb.keep | apply Sb.keepApp | apply Sb.cons | apply Sb.app))) (rd_fieldAddr rfl) rfl (by kernel_rfl) ?_
      refine xm_take 4 (m' := 29) rfl (by kernel_rfl) (by first | exact Sb.refl | exact Sb.nil | (repeat (first | exact Sb.nil | exact Sb.refl | exact Sb.app0 | apply Sb.keep | apply Sb.keepApp | apply Sb.cons | apply Sb.app))) (rd_load1 rfl (Cl.o0 rfl)) rfl (by kernel_rfl) ?_
      refine xm_two 1 7 (mi := 31) (mk := 157) rfl rfl (by kernel_rfl) rfl rfl (by kernel_rfl) (by kernel_rfl) (ef_call rfl (XF.mono (xr_long _ (by assumption) (fun z hz => by simp [hz])) ?_)) (ef_alloc fun r5 => ⟨(by first | exact Sb.refl | exact Sb.nil | (repeat (first | exact Sb.nil | exact Sb.refl | exact Sb.app0 | apply Sb.keep | apply Sb.keepApp | apply Sb.cons | apply Sb.app))), ?_⟩)
      rotate_left
      rotate_right
      rintro v L' ⟨rfl, o2, ho2, rfl⟩
      refine ⟨(by first | exact Sb.refl | exact Sb.nil | (repeat (first | exact Sb.nil | exact Sb.refl | exact Sb.app0 | apply Sb.keep | apply Sb.keepApp | apply Sb.cons | apply Sb.app))), ?_⟩
      refine xm_two 5 7 (mi := 63) (mk := 159) rfl rfl (by kernel_rfl) rfl rfl (by kernel_rfl) (by kernel_rfl) (ef_call rfl (XF.mono (xr_blocksE _ ct (by omega) (by assumption) (fun z hz => by simp [hz])) ?_)) (ef_alloc fun r5 => ⟨(by first | exact Sb.refl | exact Sb.nil | (repeat (first | exact Sb.nil | exact Sb.refl | exact Sb.app0 | apply Sb.keep | apply Sb.keepApp | apply Sb.cons | apply Sb.app))), ?_⟩)
      rotate_left
      rotate_right
      rintro v L' ⟨s, k, lb, o9, rfl, hO, ho9, rfl⟩
      refine ⟨(by first | exact Sb.refl | exact Sb.nil | (repeat (first | exact Sb.nil | exact Sb.refl | exact Sb.app0 | apply Sb.keep | apply Sb.keepApp | apply Sb.cons | apply Sb.app))), ?_⟩
      refine xm_take 6 (m' := 127) rfl (by kernel_rfl) (by first | exact Sb.refl | exact Sb.nil | (repeat (first | exact Sb.nil | exact Sb.refl | exact Sb.app0 | apply Sb.keep | apply Sb.keepApp | apply Sb.cons | apply Sb.app))) (rd_build rfl rfl rfl) rfl (by kernel_rfl) ?_
      refine xm_one 7 (m' := 255) rfl (by kernel_rfl) rfl (by kernel_rfl) (ef_alloc fun r5 => ?_)
      refine ⟨(by first | exact Sb.refl | exact Sb.nil | (repeat (first | exact Sb.nil | exact Sb.refl | exact Sb.app0 | apply Sb.keep | apply Sb.keepApp | apply Sb.cons | apply Sb.app))), ?_⟩
      refine xm_one 8 (m' := 511) rfl (by kernel_rfl) rfl (by kernel_rfl) (ef_storeB [] _ rfl rfl (by first | rfl | assumption) rfl rfl rfl ?_)
      refine ⟨(by first | exact Sb.refl | exact Sb.nil | (repeat (first | exact Sb.nil | exact Sb.refl | exact Sb.app0 | apply Sb.keep | apply Sb.keepApp | apply Sb.cons | apply Sb.app))), ?_⟩
      refine xm_done (by kernel_rfl) ?_
      rotate_left
      refine xm_one 5 (m' := 191) rfl (by kernel_rfl) rfl (by kernel_rfl) (ef_call rfl (XF.mono (XF.mid [_] (xr_blocksE _ ct (by omega) (by assumption) (fun z hz => by simp [hz]))) ?_))
      rintro v L' ⟨s, k, lb, o9, rfl, hO, ho9, rfl⟩
      refine xmx_mid [_] ?_
      refine ⟨(by first | exact Sb.refl | exact Sb.nil | (repeat (first | exact Sb.nil | exact Sb.refl | exact Sb.app0 | apply Sb.keep | apply Sb.keepApp | apply Sb.cons | apply Sb.app))), ?_⟩
      refine xm_take 6 (m' := 255) rfl (by kernel_rfl) (by first | exact Sb.refl | exact Sb.nil | (repeat (first | exact Sb.nil | exact Sb.refl | exact Sb.app0 | apply Sb.keep | apply Sb.keepApp | apply Sb.cons | apply Sb.app))) (rd_build rfl rfl rfl) rfl (by kernel_rfl) ?_
      refine xm_one 8 (m' := 511) rfl (by kernel_rfl) rfl (by kernel_rfl) (ef_storeB [] _ rfl rfl (by first | rfl | assumption) rfl rfl rfl ?_)
      refine ⟨(by first | exact Sb.refl | exact Sb.nil | (repeat (first | exact Sb.nil | exact Sb.refl | exact Sb.app0 | apply Sb.keep | apply Sb.keepApp | apply Sb.cons | apply Sb.app))), ?_⟩
      refine xm_done (by kernel_rfl) ?_
      rotate_left
      refine xm_one 1 (m' := 159) rfl (by kernel_rfl) rfl (by kernel_rfl) (ef_call rfl (XF.mono (XF.mid [_] (xr_long _ (by assumption) (fun z hz => by simp [hz]))) ?_))
      rintro v L' ⟨rfl, o2, ho2, rfl⟩
      refine xmx_mid [_] ?_
      refine ⟨(by first | exact Sb.refl | exact Sb.nil | (repeat (first | exact Sb.nil | exact Sb.refl | exact Sb.app0 | apply Sb.keep | apply Sb.keepApp | apply Sb.cons | apply Sb.app))), ?_⟩
      refine xm_one 5 (m' := 191) rfl (by kernel_rfl) rfl (by kernel_rfl) (ef_call rfl (XF.mono (XF.mid [_] (xr_blocksE _ ct (by omega) (by assumption) (fun z hz => by simp [hz]))) ?_))
      rintro v L' ⟨s, k, lb, o9, rfl, hO, ho9, rfl⟩
      refine xmx_mid [_] ?_
      refine ⟨(by first | exact Sb.refl | exact Sb.nil | (repeat (first | exact Sb.nil | exact Sb.refl | exact Sb.app0 | apply Sb.keep | apply Sb.keepApp | apply Sb.cons | apply Sb.app))), ?_⟩
      refine xm_take 6 (m' := 255) rfl (by kernel_rfl) (by first | exact Sb.refl | exact Sb.nil | (repeat (first | exact Sb.nil | exact Sb.refl | exact Sb.app0 | apply Sb.keep | apply Sb.keepApp | apply Sb.cons | apply Sb.app))) (rd_build rfl rfl rfl) rfl (by kernel_rfl) ?_
      refine xm_one 8 (m' := 511) rfl (by kernel_rfl) rfl (by kernel_rfl) (ef_storeB [] _ rfl rfl (by first | rfl | assumption) rfl rfl rfl ?_)
      refine ⟨(by first | exact Sb.refl | exact Sb.nil | (repeat (first | exact Sb.nil | exact Sb.refl | exact Sb.app0 | apply Sb.keep | apply Sb.keepApp | apply Sb.cons | apply Sb.app))), ?_⟩
      refine xm_done (by kernel_rfl) ?_
      rotate_left
    all_goals exact xq_joined (⟨r5, o9, s, k, lb⟩ : OfS) ⟨ho9, hO⟩ rfl (by repeat (first | exact keep_nil | refine keep_cons rfl ?_))
  · rintro ⟨r5, o9, s, k, lb⟩ ⟨ho9, hO⟩
    dsimp only at ho9 hO ⊢
    generalize hz : r0.rc ct = z at *
    generalize he : toldE ⟨ct, kd, bd, pd⟩ z.2 201 false = e at *
    have htold : ∀ R, XF Try.prog W 65 #[.pointer (some ⟨r10, 0, none⟩), .agg (Pb.enc ⟨⟨ct, kd, bd, pd⟩, xp, xc, xl⟩).toArray, .int .u8 201, .bool false] ((r10, o9) :: R) (fun v L' => v = .int .i64 e ∧ L' = (r10, o9) :: R) := fun R => by
      have := xr_told (L := R) r10 ho9 ⟨⟨ct, kd, bd, pd⟩, xp, xc, xl⟩ 201 false
      rwa [he] at this
    by_cases h0 : e = 0
    · subst h0
      rw [if_pos rfl]
      focus
        refine xc_seq ?_
        refine xc_seq ?_
        refine xc_region ?_
        refine xo_rd (rd_move rfl) rfl ?_
        refine xo_rd (rd_loadB rfl Kn.o3 (by rfl)) rfl ?_
        refine xo_ef rfl (ef_call rfl (XF.mono (XF.mid [_] (htold _)) ?_))
        rintro v L' ⟨rfl, rfl⟩
        refine xo_mid [_] ?_
        refine xo_rd (rd_assign rfl) rfl ?_
        refine xo_nil ?_
        refine xq_seq ?_
        refine xc_seq ?_
        refine xc_region ?_
        refine xo_rd (rd_move rfl) rfl ?_
        refine xo_rd (rd_neq rfl rfl) rfl ?_
        refine xo_nil ?_
        refine xq_seq ?_
        refine xc_condf rfl ?_
        refine xc_skip ?_
        refine xq_seq ?_
        refine xc_seq ?_
        refine xc_region ?_
        refine xo_rd (rd_loadB rfl Kn.o0 (by rfl)) rfl ?_
        refine xo_ef rfl (ef_storeB [_, _] _ rfl rfl (by first | rfl | assumption) rfl rfl rfl ?_)
        refine xo_rd (rd_assign rfl) rfl ?_
        refine xo_nil ?_
        refine xq_seq ?_
        refine xc_ret ?_
      refine xq_sub (L' := (r2, .cells #[.int .u32 z.1.1, .slice s ct k] 60 (0, 0)) :: (L ++ lb)) (.cons _ (.cons _ (.cons_cons _ (.cons _ (List.Sublist.refl _))))) (xq_perm (List.Perm.cons _ List.perm_append_comm) (xq_retB2 (.inl rfl) Try.results38 rfl rfl Kn.o0 rfl (List.sublist_cons_self _ _) ⟨s, k, lb, ?_, ?_, rfl⟩))
      · rw [hbl]
      · rw [hbl]; exact hO
    · rw [if_neg h0]
      focus
        refine xc_seq ?_
        refine xc_seq ?_
        refine xc_region ?_
        refine xo_rd (rd_move rfl) rfl ?_
        refine xo_rd (rd_loadB rfl Kn.o3 (by rfl)) rfl ?_
        refine xo_ef rfl (ef_call rfl (XF.mono (XF.mid [_] (htold _)) ?_))
        rintro v L' ⟨rfl, rfl⟩
        refine xo_mid [_] ?_
        refine xo_rd (rd_assign rfl) rfl ?_
        refine xo_nil ?_
        refine xq_seq ?_
        refine xc_seq ?_
        refine xc_region ?_
        refine xo_rd (rd_move rfl) rfl ?_
        refine xo_rd (rd_neq rfl rfl) rfl ?_
        refine xo_nil ?_
        refine xq_seq ?_
        refine xc_ndec rfl (fun h1 => ?_) (fun h1 => (by exfalso; omega))
        refine xc_seq ?_
        refine xc_region ?_
        refine xo_rd (rd_build rfl rfl rfl) rfl ?_
        refine xo_rd (rd_move rfl) rfl ?_
        refine xo_ef rfl (ef_storeB [_, _] _ rfl rfl (by first | rfl | assumption) rfl rfl rfl ?_)
        refine xo_rd (rd_assign rfl) rfl ?_
        refine xo_nil ?_
        refine xq_seq ?_
        refine xc_ret ?_
        refine xq_then_ret ?_
      exact xq_retB2 (.inl rfl) Try.results38 rfl rfl Kn.o2 rfl ((List.sublist_append_left L lb).trans (.cons _ (.cons _ (.cons _ (.cons _ (List.Sublist.refl _)))))) (RcM.err e)
def Rd.chs : Nat → Rd → List Ck × Rd
  | 0, r => ([], r)
  | n + 1, r => (r.chunk.1 :: (Rd.chs n r.chunk.2).1, (Rd.chs n r.chunk.2).2)
theorem Rd.chs_len : ∀ (n : Nat) (r : Rd), (Rd.chs n r).1.length = n
  | 0, _ => rfl
  | n + 1, r => by rw [Rd.chs, List.length_cons, Rd.chs_len n]
def ofCh (q : Pc) : List Ck × Int := if toldE q ((rd0 q).chs q.ct.toNat).2 202 true = 0 then (((rd0 q).chs q.ct.toNat).1, 0) else ([], toldE q ((rd0 q).chs q.ct.toNat).2 202 true)
structure ChZ where
  i : Nat
  ys : List Ck
  r : Rd
  o : Obj
  s : Option Addr
  k : Nat
  l : List Blk
set_option maxHeartbeats 8000000 in
theorem xf_ofChunks {W : World} {L : List Blk} (x : Pb) (hr : Rs W L x.p (ints .u8 x.q.bd)) (hg : x.q.Rg) (hc : x.q.bd.length ≤ x.c) (hn : x.q.bd.length ≤ 1000000) :
    XF Try.prog W 41 #[.agg x.enc.toArray] L (fun v L' => ∃ s k l, v = .tuple #[.slice s (ofCh x.q).1.length k, .int .i64 (ofCh x.q).2] ∧ SlO 2 97 (.slice s (ofCh x.q).1.length k) (ofCh x.q).1.length ((ofCh x.q).1.flatMap Ck.enc) l ∧ L' = l ++ L) := by
  refine xf_enter (args := [_]) Try.func41 rfl Try.ntmps41 rfl ?_
  have hB := rd0_B hr hg hc hn
  have hct := hg.ct
  unfold By at hct
  obtain ⟨⟨ct', kd, bd, pd⟩, xp, xc, xl⟩ := x
  dsimp only at hct hB hr hc hn hg
  obtain ⟨ct, rfl⟩ : ∃ ct : Nat, ct' = ct := ⟨ct'.toNat, by omega⟩
  unfold ofCh
  dsimp only
  rw [show (ct : Int).toNat = ct from rfl]
  generalize hq : (⟨ct, kd, bd, pd⟩ : Pc) = q at *
  generalize hr0 : rd0 q = r0 at *
  subst hq
  unfold Pb.enc Pc.enc
  dsimp only
  focus
    refine xc_seq ?_
    refine xc_region ?_
    refine xo_ef rfl (ef_box rfl fun r1 => ?_)
    refine xo_rd (rd_assign rfl) rfl ?_
    refine xo_rd (rd_assign rfl) rfl ?_
    refine xo_nil ?_
    refine xq_seq ?_
    refine xc_seq ?_
    refine xc_region ?_
    refine xo_rd (rd_fieldAddr rfl) rfl ?_
    refine xo_rd (rd_load1 rfl (Cl.o0 rfl)) rfl ?_
    refine xo_rd (rd_build rfl rfl rfl) rfl ?_
    refine xo_ef rfl (ef_box rfl fun r10 => ?_)
    refine xo_rd (rd_assign rfl) rfl ?_
    refine xo_nil ?_
    refine xq_seq ?_
    refine xc_seq ?_
    refine xc_region ?_
    refine xo_rd (rd_assign rfl) rfl ?_
    refine xo_nil ?_
    refine xq_seq ?_
    refine xc_seq ?_
    refine xc_seq ?_
    refine xc_region ?_
    refine xo_rd (rd_fieldAddr rfl) rfl ?_
    refine xo_rd (rd_load1 rfl (Cl.o1 rfl)) rfl ?_
    refine xo_rd (rd_move rfl) rfl ?_
    refine xo_nil ?_
    refine xq_seq ?_
    refine xc_block ?_
  refine xc_loopI (ι := ChZ) (fun z => z.i ≤ ct ∧ z.ys.length = z.i ∧ RdB W L z.r z.o ∧ Rd.chs ct r0 = (z.ys ++ (Rd.chs (ct - z.i) z.r).1, (Rd.chs (ct - z.i) z.r).2) ∧ SlO 2 97 (.slice z.s z.i z.k) z.i (z.ys.flatMap Ck.enc) z.l) (fun z => ct - z.i)
    (fun z => (r10, z.o) :: (r1, .cells #[.int .u8 ct, .int .u8 kd, .slice xp bd.length xc, .int .u8 pd] 35 (0, 0)) :: (z.l ++ L))
    (fun z => [(1, .pointer (some ⟨r1, 0, none⟩)), (4, .pointer (some ⟨r10, 0, none⟩)), (12, .int .u8 ct), (13, .int .u8 z.i), (5, .slice z.s z.i z.k)]) ⟨0, [], r0, _, none, 0, []⟩ ⟨Nat.zero_le _, rfl, hB, rfl, SlO.nil⟩ rfl (by repeat (first | exact keep_nil | refine keep_cons rfl ?_)) ?_
  rintro ⟨i, ys, r, o, s, k, l⟩ ⟨hi, hyl, hB, heq, hO⟩
  dsimp only at hi hyl hB heq hO ⊢
  by_cases hin : i < ct
  · have e1 : Rd.chs (ct - i) r = (r.chunk.1 :: (Rd.chs (ct - (i + 1)) r.chunk.2).1, (Rd.chs (ct - (i + 1)) r.chunk.2).2) := by
      obtain ⟨m, hm⟩ : ∃ m, ct - i = m + 1 := ⟨ct - i - 1, by omega⟩
      rw [hm, show ct - (i + 1) = m from by omega]; rfl
    rw [e1] at heq
    focus
      refine xc_seq ?_
      refine xc_region ?_
      refine xo_rd (rd_lss rfl rfl) rfl ?_
      refine xo_nil ?_
      refine xq_seq ?_
      refine xc_seq ?_
      refine xc_dec rfl (fun h1 => ?_) (fun h1 => (by exfalso; omega))
      refine xc_skip ?_
      refine xq_seq ?_
      refine xc_seq ?_
      refine xc_block ?_
      refine xc_region ?_
      refine xo_rd (rd_move rfl) rfl ?_
      refine xo_rd (rd_move rfl) rfl ?_
      refine xo_ef rfl (ef_call rfl (XF.mono (xr_chunk _ hB (fun z hz => by simp [hz])) ?_))
      rintro v L' ⟨rfl, o2, ho2, rfl⟩
      refine xo_ef rfl (ef_sliceA (vs := r.chunk.1.enc) rfl rfl (by rw [Ck.len]; decide) (by rw [Ck.len]; decide) fun r38 => ?_)
      refine xo_ef rfl (ef_appendS [_, _, _] L l (news := r.chunk.1.enc) rfl rfl hO rfl (Rs.fresh (List.Mem.head _)) rfl rfl (by decide) (by omega) (by omega) fun s' k' l' hO' hk' => ?_)
      refine xo_rd (rd_assign rfl) rfl ?_
      refine xo_nil ?_
      refine xq_block ?_
      refine xq_seq ?_
      refine xc_region ?_
      refine xo_rd (rd_addn rfl rfl (by omega) (by omega)) rfl ?_
      refine xo_rd (rd_move rfl) rfl ?_
      refine xo_nil ?_
    refine xq_tail (xq_roundI (⟨i + 1, ys ++ [r.chunk.1], r.chunk.2, _, s', k', l'⟩ : ChZ) ⟨by dsimp only; omega, by simp [hyl], by assumption, ?_, ?_⟩ (by dsimp only; omega) rfl (by repeat (first | exact keep_nil | refine keep_cons rfl ?_)))
    · rw [heq]; simp only [List.append_assoc, List.singleton_append]
    · dsimp only
      rw [List.flatMap_append, List.flatMap_singleton]
      exact hO'
  · obtain rfl : i = ct := by omega
    rw [Nat.sub_self, show (Rd.chs 0 r).1 = [] from rfl, show (Rd.chs 0 r).2 = r from rfl, List.append_nil] at heq
    rw [heq]
    dsimp only
    generalize he : toldE ⟨i, kd, bd, pd⟩ r 202 true = e at *
    have htold : ∀ R, XF Try.prog W 65 #[.pointer (some ⟨r10, 0, none⟩), .agg (Pb.enc ⟨⟨i, kd, bd, pd⟩, xp, xc, xl⟩).toArray, .int .u8 202, .bool true] ((r10, o) :: R) (fun v L' => v = .int .i64 e ∧ L' = (r10, o) :: R) := fun R => by
      have := xr_told (L := R) r10 hB ⟨⟨i, kd, bd, pd⟩, xp, xc, xl⟩ 202 true
      rwa [he] at this
    by_cases h0 : e = 0
    · subst h0
      rw [if_pos rfl]
      focus
        refine xc_seq ?_
        refine xc_region ?_
        refine xo_rd (rd_lss rfl rfl) rfl ?_
        refine xo_nil ?_
        refine xq_seq ?_
        refine xc_seq ?_
        refine xc_dec rfl (fun h1 => (by exfalso; omega)) (fun h1 => ?_)
        refine xc_exit ?_
        refine xq_then_exit ?_
        refine xq_then_exit ?_
        refine xq_block_hit ?_
        refine xq_seq ?_
        refine xc_seq ?_
        refine xc_seq ?_
        refine xc_region ?_
        refine xo_rd (rd_move rfl) rfl ?_
        refine xo_rd (rd_loadB rfl Kn.o1 (by rfl)) rfl ?_
        refine xo_ef rfl (ef_call rfl (XF.mono (htold _) ?_))
        rintro v L' ⟨rfl, rfl⟩
        refine xo_rd (rd_assign rfl) rfl ?_
        refine xo_nil ?_
        refine xq_seq ?_
        refine xc_seq ?_
        refine xc_region ?_
        refine xo_rd (rd_move rfl) rfl ?_
        refine xo_rd (rd_neq rfl rfl) rfl ?_
        refine xo_nil ?_
        refine xq_seq ?_
        refine xc_condf rfl ?_
        refine xc_skip ?_
        refine xq_seq ?_
        refine xc_seq ?_
        refine xc_region ?_
        refine xo_rd (rd_move rfl) rfl ?_
        refine xo_rd (rd_assign rfl) rfl ?_
        refine xo_rd (rd_assign rfl) rfl ?_
        refine xo_nil ?_
        refine xq_seq ?_
        refine xc_ret ?_
      exact xq_sub (.cons _ (.cons _ (List.Sublist.refl _))) (xq_ret2 (.inl rfl) Try.results41 rfl rfl ⟨s, k, l, by rw [hyl], by rw [hyl]; exact hO, rfl⟩)
    · rw [if_neg h0]
      focus
        refine xc_seq ?_
        refine xc_region ?_
        refine xo_rd (rd_lss rfl rfl) rfl ?_
        refine xo_nil ?_
        refine xq_seq ?_
        refine xc_seq ?_
        refine xc_dec rfl (fun h1 => (by exfalso; omega)) (fun h1 => ?_)
        refine xc_exit ?_
        refine xq_then_exit ?_
        refine xq_then_exit ?_
        refine xq_block_hit ?_
        refine xq_seq ?_
        refine xc_seq ?_
        refine xc_seq ?_
        refine xc_region ?_
        refine xo_rd (rd_move rfl) rfl ?_
        refine xo_rd (rd_loadB rfl Kn.o1 (by rfl)) rfl ?_
        refine xo_ef rfl (ef_call rfl (XF.mono (htold _) ?_))
        rintro v L' ⟨rfl, rfl⟩
        refine xo_rd (rd_assign rfl) rfl ?_
        refine xo_nil ?_
        refine xq_seq ?_
        refine xc_seq ?_
        refine xc_region ?_
        refine xo_rd (rd_move rfl) rfl ?_
        refine xo_rd (rd_neq rfl rfl) rfl ?_
        refine xo_nil ?_
        refine xq_seq ?_
        refine xc_ndec rfl (fun h2 => ?_) (fun h2 => (by exfalso; omega))
        refine xc_seq ?_
        refine xc_region ?_
        refine xo_rd (rd_move rfl) rfl ?_
        refine xo_rd (rd_assign rfl) rfl ?_
        refine xo_rd (rd_assign rfl) rfl ?_
        refine xo_nil ?_
        refine xq_seq ?_
        refine xc_ret ?_
        refine xq_then_ret ?_
      exact xq_sub (.cons _ (.cons _ (List.sublist_append_right l L))) (xq_ret2 (.inl rfl) Try.results41 rfl rfl ⟨none, 0, [], rfl, SlO.nil, rfl⟩)
end Go.Proofs.Ytohlaabclifbfaa.X
/-
  Who goes is told: a walk of my own.
-/
namespace Go.Proofs.Ytohlaabclifbfaa.X
open Go Go.RowKit
set_option linter.unusedVariables false
set_option linter.unusedSimpArgs false
structure By' where
  so : List Int
  re : ByteArray
def By'.enc (x : By') (v : Value) : List Value := [v, .string x.re]
def Rd.lgs : Nat → Rd → List Int × Rd
  | 0, r => ([], r)
  | n + 1, r => (vl (r.take 4).1 :: (Rd.lgs n (r.take 4).2).1, (Rd.lgs n (r.take 4).2).2)
theorem Rd.lgs_len : ∀ (n : Nat) (r : Rd), (Rd.lgs n r).1.length = n
  | 0, _ => rfl
  | n + 1, r => by rw [Rd.lgs, List.length_cons, Rd.lgs_len n]
def Rd.bye (r : Rd) (n : Nat) : By' × Rd := if 0 < (Rd.lgs n r).2.l.length then (⟨(Rd.lgs n r).1, strOfNums (Rd.lgs n r).2.text.1⟩, (Rd.lgs n r).2.text.2.fill) else (⟨(Rd.lgs n r).1, ⟨#[]⟩⟩, (Rd.lgs n r).2)
def ofBy (q : Pc) : By' × Int := if toldE q ((rd0 q).bye q.ct.toNat).2 203 true = 0 then (((rd0 q).bye q.ct.toNat).1, 0) else (⟨[], ⟨#[]⟩⟩, toldE q ((rd0 q).bye q.ct.toNat).2 203 true)
/-- Who goes, as it is told. -/
def ByM (L : List Blk) (z : By' × Int) (v : Value) (L' : List Blk) : Prop :=
  ∃ s k l, v = .tuple #[.agg (z.1.enc (.slice s z.1.so.length k)).toArray, .int .i64 z.2] ∧ SlO 1 49 (.slice s z.1.so.length k) z.1.so.length (ints .u32 z.1.so) l ∧ L' = l ++ L
theorem ByM.err {L : List Blk} (e : Int) : ByM L (⟨[], ⟨#[]⟩⟩, e) (.tuple #[.agg #[.slice none 0 0, .string ⟨#[]⟩], .int .i64 e]) L := ⟨none, 0, [], rfl, SlO.nil, rfl⟩
structure LgZ where
  i : Nat
  ys : List Int
  r : Rd
  o : Obj
  s : Option Addr
  k : Nat
  l : List Blk
set_option maxHeartbeats 8000000 in
theorem xf_ofBye {W : World} {L : List Blk} (x : Pb) (hr : Rs W L x.p (ints .u8 x.q.bd)) (hg : x.q.Rg) (hc : x.q.bd.length ≤ x.c) (hn : x.q.bd.length ≤ 1000000) :
    XF Try.prog W 43 #[.agg x.enc.toArray] L (ByM L (ofBy x.q)) := by
  refine xf_enter (args := [_]) Try.func43 rfl Try.ntmps43 rfl ?_
  have hB := rd0_B hr hg hc hn
  have hct := hg.ct
  unfold By at hct
  obtain ⟨⟨ct', kd, bd, pd⟩, xp, xc, xl⟩ := x
  dsimp only at hct hB hr hc hn hg
  obtain ⟨ct, rfl⟩ : ∃ ct : Nat, ct' = ct := ⟨ct'.toNat, by omega⟩
  unfold ofBy
  dsimp only
  rw [show (ct : Int).toNat = ct from rfl]
  generalize hq : (⟨ct, kd, bd, pd⟩ : Pc) = q at *
  generalize hr0 : rd0 q = r0 at *
  subst hq
  unfold Pb.enc Pc.enc
  dsimp only
  focus
    refine xc_seq ?_
    refine xc_region ?_
    refine xo_ef rfl (ef_box rfl fun r1 => ?_)
    refine xo_ef rfl (ef_alloc fun r2 => ?_)
    refine xo_rd (rd_assign rfl) rfl ?_
    refine xo_nil ?_
    refine xq_seq ?_
    refine xc_seq ?_
    refine xc_region ?_
    refine xo_rd (rd_fieldAddr rfl) rfl ?_
    refine xo_rd (rd_load1 rfl (Cl.o1 rfl)) rfl ?_
    refine xo_rd (rd_build rfl rfl rfl) rfl ?_
    refine xo_ef rfl (ef_box rfl fun r10 => ?_)
    refine xo_rd (rd_assign rfl) rfl ?_
    refine xo_nil ?_
    refine xq_seq ?_
    refine xc_seq ?_
    refine xc_region ?_
    refine xo_ef rfl (ef_alloc fun r5 => ?_)
    refine xo_nil ?_
    refine xq_seq ?_
    refine xc_seq ?_
    refine xc_seq ?_
    refine xc_region ?_
    refine xo_rd (rd_fieldAddr rfl) rfl ?_
    refine xo_rd (rd_load1 rfl (Cl.o3 rfl)) rfl ?_
    refine xo_rd (rd_move rfl) rfl ?_
    refine xo_nil ?_
    refine xq_seq ?_
    refine xc_block ?_
  refine xc_loopI (ι := LgZ) (fun z => z.i ≤ ct ∧ z.ys.length = z.i ∧ RdB W L z.r z.o ∧ Rd.lgs ct r0 = (z.ys ++ (Rd.lgs (ct - z.i) z.r).1, (Rd.lgs (ct - z.i) z.r).2) ∧ SlO 1 49 (.slice z.s z.i z.k) z.i (ints .u32 z.ys) z.l) (fun z => ct - z.i)
    (fun z => (r5, .cells #[.slice z.s z.i z.k, .string ⟨#[]⟩] 57 (0, 0)) :: (r10, z.o) :: (r2, .cells #[.slice none 0 0, .string ⟨#[]⟩] 57 (0, 0)) :: (r1, .cells #[.int .u8 ct, .int .u8 kd, .slice xp bd.length xc, .int .u8 pd] 35 (0, 0)) :: (z.l ++ L))
    (fun z => [(1, .pointer (some ⟨r1, 0, none⟩)), (2, .pointer (some ⟨r2, 0, none⟩)), (4, .pointer (some ⟨r10, 0, none⟩)), (5, .pointer (some ⟨r5, 0, none⟩)), (12, .int .u8 ct), (13, .int .u8 z.i)]) ⟨0, [], r0, _, none, 0, []⟩ ⟨Nat.zero_le _, rfl, hB, rfl, SlO.nil⟩ rfl (by repeat (first | exact keep_nil | refine keep_cons rfl ?_)) ?_
  rintro ⟨i, ys, r, o, s, k, l⟩ ⟨hi, hyl, hB, heq, hO⟩
  dsimp only at hi hyl hB heq hO ⊢
  by_cases hin : i < ct
  · have e1 : Rd.lgs (ct - i) r = (vl (r.take 4).1 :: (Rd.lgs (ct - (i + 1)) (r.take 4).2).1, (Rd.lgs (ct - (i + 1)) (r.take 4).2).2) := by
      obtain ⟨m, hm⟩ : ∃ m, ct - i = m + 1 := ⟨ct - i - 1, by omega⟩
      rw [hm, show ct - (i + 1) = m from by omega]; rfl
    rw [e1] at heq
    focus
      refine xc_seq ?_
      refine xc_region ?_
      refine xo_rd (rd_lss rfl rfl) rfl ?_
      refine xo_nil ?_
      refine xq_seq ?_
      refine xc_seq ?_
      refine xc_dec rfl (fun h1 => ?_) (fun h1 => (by exfalso; omega))
      refine xc_skip ?_
      refine xq_seq ?_
      refine xc_seq ?_
      refine xc_block ?_
      refine xc_drawM [0, 1, 0, 4, 8, 26, 63, 127] [0, 1, 0, 4, 8, 26, 63, 127] [] (by kernel_rfl) (by kernel_rfl) (by kernel_rfl) ?_
      refine xm_take 0 (m' := 1) rfl (by kernel_rfl) (by first | exact Sb.refl | exact Sb.nil | (repeat (first | exact Sb.nil | exact Sb.refl | exact Sb.app0 | apply Sb.keep | apply Sb.keepApp | apply Sb.cons | apply Sb.app))) (rd_fieldAddr rfl) rfl (by kernel_rfl) ?_
      refine xm_take 2 (m' := 5) rfl (by kernel_rfl) (by first | exact Sb.refl | exact Sb.nil | (repeat (first | exact Sb.nil | exact Sb.refl | exact Sb.app0 | apply Sb.keep | apply Sb.keepApp | apply Sb.cons | apply Sb.app))) (rd_move rfl) rfl (by kernel_rfl) ?_
      refine xm_two 1 3 (mi := 7) (mk := 13) rfl rfl (by kernel_rfl) rfl rfl (by kernel_rfl) (by kernel_rfl) (ef_rd (rd_load1 rfl (Cl.o0 rfl)) ⟨(by first | exact Sb.refl | exact Sb.nil | (repeat (first | exact Sb.nil | exact Sb.refl | exact Sb.app0 | apply Sb.keep | apply Sb.keepApp | apply Sb.cons | apply Sb.app))), ?_⟩) (ef_call rfl (XF.mono (XF.mid [_] (xr_long _ hB (fun z hz => by simp [hz]))) ?_))
      rotate_left
      rintro v L' ⟨rfl, o2, ho2, rfl⟩
      refine xmx_mid [_] ?_
      refine ⟨(by first | exact Sb.refl | exact Sb.nil | (repeat (first | exact Sb.nil | exact Sb.refl | exact Sb.app0 | apply Sb.keep | apply Sb.keepApp | apply Sb.cons | apply Sb.app))), ?_⟩
      rotate_right
      refine xm_one 3 (m' := 15) rfl (by kernel_rfl) rfl (by kernel_rfl) (ef_call rfl (XF.mono (XF.mid [_] (xr_long _ hB (fun z hz => by simp [hz]))) ?_))
      rintro v L' ⟨rfl, o2, ho2, rfl⟩
      refine xmx_mid [_] ?_
      refine ⟨(by first | exact Sb.refl | exact Sb.nil | (repeat (first | exact Sb.nil | exact Sb.refl | exact Sb.app0 | apply Sb.keep | apply Sb.keepApp | apply Sb.cons | apply Sb.app))), ?_⟩
      refine xm_one 4 (m' := 31) rfl (by kernel_rfl) rfl (by kernel_rfl) (ef_slice1 rfl rfl rfl fun r38 => ?_)
      refine ⟨(by first | exact Sb.refl | exact Sb.nil | (repeat (first | exact Sb.nil | exact Sb.refl | exact Sb.app0 | apply Sb.keep | apply Sb.keepApp | apply Sb.cons | apply Sb.app))), ?_⟩
      refine xm_one 5 (m' := 63) rfl (by kernel_rfl) rfl (by kernel_rfl) (ef_appendS [_, _, _, _, _] L l (news := [.int .u32 (vl (r.take 4).1)]) rfl rfl hO rfl (Rs.fresh (List.Mem.head _)) rfl rfl (by decide) (by omega) (by omega) fun s' k' l' hO' hk' => ?_)
      refine ⟨(by first | exact Sb.refl | exact Sb.nil | (repeat (first | exact Sb.nil | exact Sb.refl | exact Sb.app0 | apply Sb.keep | apply Sb.keepApp | apply Sb.cons | apply Sb.app))), ?_⟩
      refine xm_take 6 (m' := 127) rfl (by kernel_rfl) (by first | exact Sb.refl | exact Sb.nil | (repeat (first | exact Sb.nil | exact Sb.refl | exact Sb.app0 | apply Sb.keep | apply Sb.keepApp | apply Sb.cons | apply Sb.app))) (rd_fieldAddr rfl) rfl (by kernel_rfl) ?_
      refine xm_one 7 (m' := 255) rfl (by kernel_rfl) rfl (by kernel_rfl) (ef_store1 [_] _ rfl rfl (by first | rfl | assumption) rfl rfl rfl ?_)
      refine ⟨(by first | exact Sb.refl | exact Sb.nil | (repeat (first | exact Sb.nil | exact Sb.refl | exact Sb.app0 | apply Sb.keep | apply Sb.keepApp | apply Sb.cons | apply Sb.app))), ?_⟩
      refine xm_done (by kernel_rfl) ?_
      refine xq_block ?_
      refine xq_seq ?_
      refine xc_region ?_
      refine xo_rd (rd_addn rfl rfl (by omega) (by omega)) rfl ?_
      refine xo_rd (rd_move rfl) rfl ?_
      refine xo_nil ?_
      rotate_left
      refine xm_two 1 4 (mi := 15) (mk := 29) rfl rfl (by kernel_rfl) rfl rfl (by kernel_rfl) (by kernel_rfl) (ef_rd (rd_load1 rfl (Cl.o0 rfl)) ⟨(by first | exact Sb.refl | exact Sb.nil | (repeat (first | exact Sb.nil | exact Sb.refl | exact Sb.app0 | apply Sb.keep | apply Sb.keepApp | apply Sb.cons | apply Sb.app))), ?_⟩) (ef_slice1 rfl rfl rfl fun r38 => ⟨(by first | exact Sb.refl | exact Sb.nil | (repeat (first | exact Sb.nil | exact Sb.refl | exact Sb.app0 | apply Sb.keep | apply Sb.keepApp | apply Sb.cons | apply Sb.app))), ?_⟩)
      refine xm_one 4 (m' := 31) rfl (by kernel_rfl) rfl (by kernel_rfl) (ef_slice1 rfl rfl rfl fun r38 => ?_)
      refine ⟨(by first | exact Sb.refl | exact Sb.nil | (repeat (first | exact Sb.nil | exact Sb.refl | exact Sb.app0 | apply Sb.keep | apply Sb.keepApp | apply Sb.cons | apply Sb.app))), ?_⟩
      refine xm_one 5 (m' := 63) rfl (by kernel_rfl) rfl (by kernel_rfl) (ef_appendS [_, _, _, _, _] L l (news := [.int .u32 (vl (r.take 4).1)]) rfl rfl hO rfl (Rs.fresh (List.Mem.head _)) rfl rfl (by decide) (by omega) (by omega) fun s' k' l' hO' hk' => ?_)
      refine ⟨(by first | exact Sb.refl | exact Sb.nil | (repeat (first | exact Sb.nil | exact Sb.refl | exact Sb.app0 | apply Sb.keep | apply Sb.keepApp | apply Sb.cons | apply Sb.app))), ?_⟩
      refine xm_take 6 (m' := 127) rfl (by kernel_rfl) (by first | exact Sb.refl | exact Sb.nil | (repeat (first | exact Sb.nil | exact Sb.refl | exact Sb.app0 | apply Sb.keep | apply Sb.keepApp | apply Sb.cons | apply Sb.app))) (rd_fieldAddr rfl) rfl (by kernel_rfl) ?_
      refine xm_one 7 (m' := 255) rfl (by kernel_rfl) rfl (by kernel_rfl) (ef_store1 [_] _ rfl rfl (by first | rfl | assumption) rfl rfl rfl ?_)
      refine ⟨(by first | exact Sb.refl | exact Sb.nil | (repeat (first | exact Sb.nil | exact Sb.refl | exact Sb.app0 | apply Sb.keep | apply Sb.keepApp | apply Sb.cons | apply Sb.app))), ?_⟩
      refine xm_done (by kernel_rfl) ?_
      refine xq_block ?_
      refine xq_seq ?_
      refine xc_region ?_
      refine xo_rd (rd_addn rfl rfl (by omega) (by omega)) rfl ?_
      refine xo_rd (rd_move rfl) rfl ?_
      refine xo_nil ?_
      rotate_left
      refine xm_one 1 (m' := 31) rfl (by kernel_rfl) rfl (by kernel_rfl) (ef_rd (rd_load1 rfl (Cl.o1 rfl)) ?_)
      refine ⟨(by first | exact Sb.refl | exact Sb.nil | (repeat (first | exact Sb.nil | exact Sb.refl | exact Sb.app0 | apply Sb.keep | apply Sb.keepApp | apply Sb.cons | apply Sb.app))), ?_⟩
      refine xm_one 5 (m' := 63) rfl (by kernel_rfl) rfl (by kernel_rfl) (ef_appendS [_, _, _, _, _] L l (news := [.int .u32 (vl (r.take 4).1)]) rfl rfl hO rfl (Rs.fresh (List.Mem.head _)) rfl rfl (by decide) (by omega) (by omega) fun s' k' l' hO' hk' => ?_)
      refine ⟨(by first | exact Sb.refl | exact Sb.nil | (repeat (first | exact Sb.nil | exact Sb.refl | exact Sb.app0 | apply Sb.keep | apply Sb.keepApp | apply Sb.cons | apply Sb.app))), ?_⟩
      refine xm_take 6 (m' := 127) rfl (by kernel_rfl) (by first | exact Sb.refl | exact Sb.nil | (repeat (first | exact Sb.nil | exact Sb.refl | exact Sb.app0 | apply Sb.keep | apply Sb.keepApp | apply Sb.cons | apply Sb.app))) (rd_fieldAddr rfl) rfl (by kernel_rfl) ?_
      refine xm_one 7 (m' := 255) rfl (by kernel_rfl) rfl (by kernel_rfl) (ef_store1 [_] _ rfl rfl (by first | rfl | assumption) rfl rfl rfl ?_)
      refine ⟨(by first | exact Sb.refl | exact Sb.nil | (repeat (first | exact Sb.nil | exact Sb.refl | exact Sb.app0 | apply Sb.keep | apply Sb.keepApp | apply Sb.cons | apply Sb.app))), ?_⟩
      refine xm_done (by kernel_rfl) ?_
      refine xq_block ?_
      refine xq_seq ?_
      refine xc_region ?_
      refine xo_rd (rd_addn rfl rfl (by omega) (by omega)) rfl ?_
      refine xo_rd (rd_move rfl) rfl ?_
      refine xo_nil ?_
      rotate_left
    all_goals refine xq_tail (xq_roundI (⟨i + 1, ys ++ [vl (r.take 4).1], (r.take 4).2, o2, s', k', l'⟩ : LgZ) ⟨by dsimp only; omega, by simp [hyl], ho2, ?_, ?_⟩ (by dsimp only; omega) rfl (by repeat (first | exact keep_nil | refine keep_cons rfl ?_)))
    all_goals first | (rw [heq]; simp only [List.append_assoc, List.singleton_append]; done) | (dsimp only; rw [ints_app]; exact hO')
  · obtain rfl : i = ct := by omega
    rw [Nat.sub_self, show (Rd.lgs 0 r).1 = [] from rfl, show (Rd.lgs 0 r).2 = r from rfl, List.append_nil] at heq
    unfold Rd.bye
    rw [heq]
    dsimp only
    have hB2 := hB
    obtain ⟨p4, c4, rfl, hc4, hr4, hok4⟩ := hB
    have hld : ∀ a R, Cl W (a :: (r10, .cells (rdC p4 c4 r).toArray 116 (0, 0)) :: R) r10 (0 + 0) (.slice p4 r.l.length c4) := fun a R => Cl.o1 rfl
    have htold : ∀ (z : Rd) (o : Obj) (e : Int) (he : toldE ⟨i, kd, bd, pd⟩ z 203 true = e) (hB : RdB W L z o), ∀ R, XF Try.prog W 65 #[.pointer (some ⟨r10, 0, none⟩), .agg (Pb.enc ⟨⟨i, kd, bd, pd⟩, xp, xc, xl⟩).toArray, .int .u8 203, .bool true] ((r10, o) :: R) (fun v L' => v = .int .i64 e ∧ L' = (r10, o) :: R) := fun z o e he hB R => by
      have := xr_told (L := R) r10 hB ⟨⟨i, kd, bd, pd⟩, xp, xc, xl⟩ 203 true
      rwa [he] at this
    by_cases hl0 : 0 < r.l.length
    · rw [if_pos hl0]
      dsimp only
      generalize he : toldE ⟨i, kd, bd, pd⟩ r.text.2.fill 203 true = e at *
      by_cases h0 : e = 0
      · subst h0
        rw [if_pos rfl]
        focus
          refine xc_seq ?_
          refine xc_region ?_
          refine xo_rd (rd_lss rfl rfl) rfl ?_
          refine xo_nil ?_
          refine xq_seq ?_
          refine xc_seq ?_
          refine xc_dec rfl (fun hq1 => (by exfalso; omega)) (fun hq1 => ?_)
          refine xc_exit ?_
          refine xq_then_exit ?_
          refine xq_then_exit ?_
          refine xq_block_hit ?_
          refine xq_seq ?_
          refine xc_seq ?_
          refine xc_seq ?_
          refine xc_region ?_
          refine xo_rd (rd_move rfl) rfl ?_
          refine xo_rd (rd_nilCheck rfl) rfl ?_
          refine xo_rd (rd_fieldAddr rfl) rfl ?_
          refine xo_rd (rd_load1 rfl (hld _ _)) rfl ?_
          refine xo_rd (rd_len rfl) rfl ?_
          refine xo_rd (rd_gtr rfl rfl) rfl ?_
          refine xo_nil ?_
          refine xq_seq ?_
          refine xc_dec rfl (fun hq2 => ?_) (fun hq2 => (by exfalso; omega))
          refine xc_seq ?_
          refine xc_region ?_
          refine xo_rd (rd_move rfl) rfl ?_
          refine xo_ef rfl (ef_call rfl (XF.mono (XF.mid [_] (xr_text _ hB2 (fun z hz => by simp [hz]))) ?_))
          rintro v L' ⟨rfl, o5, ho5, rfl⟩
          refine xo_mid [_] ?_
          refine xo_rd (rd_fieldAddr rfl) rfl ?_
          refine xo_ef rfl (ef_store1 [] _ rfl rfl (by first | rfl | assumption) rfl rfl rfl ?_)
          refine xo_nil ?_
          refine xq_seq ?_
          refine xc_region ?_
          refine xo_rd (rd_move rfl) rfl ?_
          refine xo_ef rfl (ef_call rfl (XF.mono (XF.mid [_] (xr_fill _ ho5 (fun z hz => by simp [hz]))) ?_))
          rintro v L' ⟨rfl, o6, ho6, rfl⟩
          refine xo_mid [_] ?_
          refine xo_nil ?_
          refine xq_seq ?_
          refine xc_seq ?_
          refine xc_seq ?_
          refine xc_region ?_
          refine xo_rd (rd_move rfl) rfl ?_
          refine xo_rd (rd_loadB rfl Kn.o3 (by rfl)) rfl ?_
          refine xo_ef rfl (ef_call rfl (XF.mono (XF.mid [_] (htold _ _ _ he ho6 _)) ?_))
          rintro v L' ⟨rfl, rfl⟩
          refine xo_mid [_] ?_
          refine xo_rd (rd_assign rfl) rfl ?_
          refine xo_nil ?_
          refine xq_seq ?_
          refine xc_seq ?_
          refine xc_region ?_
          refine xo_rd (rd_move rfl) rfl ?_
          refine xo_rd (rd_neq rfl rfl) rfl ?_
          refine xo_nil ?_
          refine xq_seq ?_
          refine xc_condf rfl ?_
          refine xc_skip ?_
          refine xq_seq ?_
          refine xc_seq ?_
          refine xc_region ?_
          refine xo_rd (rd_loadB rfl Kn.o0 (by rfl)) rfl ?_
          refine xo_ef rfl (ef_storeB [_, _] _ rfl rfl (by first | rfl | assumption) rfl rfl rfl ?_)
          refine xo_rd (rd_assign rfl) rfl ?_
          refine xo_nil ?_
          refine xq_seq ?_
          refine xc_ret ?_
        exact xq_sub (L' := (r2, .cells #[.slice s i k, .string (strOfNums r.text.1)] 57 (0, 0)) :: (l ++ L)) (.cons _ (.cons _ (.cons_cons _ (.cons _ (List.Sublist.refl _))))) (xq_retB2 (.inl rfl) Try.results43 rfl rfl Kn.o0 rfl (List.sublist_cons_self _ _) ⟨s, k, l, by rw [hyl]; rfl, by rw [hyl]; exact hO, rfl⟩)
      · rw [if_neg h0]
        focus
          refine xc_seq ?_
          refine xc_region ?_
          refine xo_rd (rd_lss rfl rfl) rfl ?_
          refine xo_nil ?_
          refine xq_seq ?_
          refine xc_seq ?_
          refine xc_dec rfl (fun hq1 => (by exfalso; omega)) (fun hq1 => ?_)
          refine xc_exit ?_
          refine xq_then_exit ?_
          refine xq_then_exit ?_
          refine xq_block_hit ?_
          refine xq_seq ?_
          refine xc_seq ?_
          refine xc_seq ?_
          refine xc_region ?_
          refine xo_rd (rd_move rfl) rfl ?_
          refine xo_rd (rd_nilCheck rfl) rfl ?_
          refine xo_rd (rd_fieldAddr rfl) rfl ?_
          refine xo_rd (rd_load1 rfl (hld _ _)) rfl ?_
          refine xo_rd (rd_len rfl) rfl ?_
          refine xo_rd (rd_gtr rfl rfl) rfl ?_
          refine xo_nil ?_
          refine xq_seq ?_
          refine xc_dec rfl (fun hq2 => ?_) (fun hq2 => (by exfalso; omega))
          refine xc_seq ?_
          refine xc_region ?_
          refine xo_rd (rd_move rfl) rfl ?_
          refine xo_ef rfl (ef_call rfl (XF.mono (XF.mid [_] (xr_text _ hB2 (fun z hz => by simp [hz]))) ?_))
          rintro v L' ⟨rfl, o5, ho5, rfl⟩
          refine xo_mid [_] ?_
          refine xo_rd (rd_fieldAddr rfl) rfl ?_
          refine xo_ef rfl (ef_store1 [] _ rfl rfl (by first | rfl | assumption) rfl rfl rfl ?_)
          refine xo_nil ?_
          refine xq_seq ?_
          refine xc_region ?_
          refine xo_rd (rd_move rfl) rfl ?_
          refine xo_ef rfl (ef_call rfl (XF.mono (XF.mid [_] (xr_fill _ ho5 (fun z hz => by simp [hz]))) ?_))
          rintro v L' ⟨rfl, o6, ho6, rfl⟩
          refine xo_mid [_] ?_
          refine xo_nil ?_
          refine xq_seq ?_
          refine xc_seq ?_
          refine xc_seq ?_
          refine xc_region ?_
          refine xo_rd (rd_move rfl) rfl ?_
          refine xo_rd (rd_loadB rfl Kn.o3 (by rfl)) rfl ?_
          refine xo_ef rfl (ef_call rfl (XF.mono (XF.mid [_] (htold _ _ _ he ho6 _)) ?_))
          rintro v L' ⟨rfl, rfl⟩
          refine xo_mid [_] ?_
          refine xo_rd (rd_assign rfl) rfl ?_
          refine xo_nil ?_
          refine xq_seq ?_
          refine xc_seq ?_
          refine xc_region ?_
          refine xo_rd (rd_move rfl) rfl ?_
          refine xo_rd (rd_neq rfl rfl) rfl ?_
          refine xo_nil ?_
          refine xq_seq ?_
          refine xc_ndec rfl (fun hq3 => ?_) (fun hq3 => (by exfalso; omega))
          refine xc_seq ?_
          refine xc_region ?_
          refine xo_rd (rd_build rfl rfl rfl) rfl ?_
          refine xo_rd (rd_move rfl) rfl ?_
          refine xo_ef rfl (ef_storeB [_, _] _ rfl rfl (by first | rfl | assumption) rfl rfl rfl ?_)
          refine xo_rd (rd_assign rfl) rfl ?_
          refine xo_nil ?_
          refine xq_seq ?_
          refine xc_ret ?_
          refine xq_then_ret ?_
        exact xq_retB2 (.inl rfl) Try.results43 rfl rfl Kn.o2 rfl ((List.sublist_append_right l L).trans (.cons _ (.cons _ (.cons _ (.cons _ (List.Sublist.refl _)))))) (ByM.err e)
    · rw [if_neg hl0]
      dsimp only
      generalize he : toldE ⟨i, kd, bd, pd⟩ r 203 true = e at *
      by_cases h0 : e = 0
      · subst h0
        rw [if_pos rfl]
        focus
          refine xc_seq ?_
          refine xc_region ?_
          refine xo_rd (rd_lss rfl rfl) rfl ?_
          refine xo_nil ?_
          refine xq_seq ?_
          refine xc_seq ?_
          refine xc_dec rfl (fun hq1 => (by exfalso; omega)) (fun hq1 => ?_)
          refine xc_exit ?_
          refine xq_then_exit ?_
          refine xq_then_exit ?_
          refine xq_block_hit ?_
          refine xq_seq ?_
          refine xc_seq ?_
          refine xc_seq ?_
          refine xc_region ?_
          refine xo_rd (rd_move rfl) rfl ?_
          refine xo_rd (rd_nilCheck rfl) rfl ?_
          refine xo_rd (rd_fieldAddr rfl) rfl ?_
          refine xo_rd (rd_load1 rfl (hld _ _)) rfl ?_
          refine xo_rd (rd_len rfl) rfl ?_
          refine xo_rd (rd_gtr rfl rfl) rfl ?_
          refine xo_nil ?_
          refine xq_seq ?_
          refine xc_dec rfl (fun hq2 => (by exfalso; omega)) (fun hq2 => ?_)
          refine xc_skip ?_
          refine xq_seq ?_
          refine xc_seq ?_
          refine xc_seq ?_
          refine xc_region ?_
          refine xo_rd (rd_move rfl) rfl ?_
          refine xo_rd (rd_loadB rfl Kn.o3 (by rfl)) rfl ?_
          refine xo_ef rfl (ef_call rfl (XF.mono (XF.mid [_] (htold _ _ _ he hB2 _)) ?_))
          rintro v L' ⟨rfl, rfl⟩
          refine xo_mid [_] ?_
          refine xo_rd (rd_assign rfl) rfl ?_
          refine xo_nil ?_
          refine xq_seq ?_
          refine xc_seq ?_
          refine xc_region ?_
          refine xo_rd (rd_move rfl) rfl ?_
          refine xo_rd (rd_neq rfl rfl) rfl ?_
          refine xo_nil ?_
          refine xq_seq ?_
          refine xc_condf rfl ?_
          refine xc_skip ?_
          refine xq_seq ?_
          refine xc_seq ?_
          refine xc_region ?_
          refine xo_rd (rd_loadB rfl Kn.o0 (by rfl)) rfl ?_
          refine xo_ef rfl (ef_storeB [_, _] _ rfl rfl (by first | rfl | assumption) rfl rfl rfl ?_)
          refine xo_rd (rd_assign rfl) rfl ?_
          refine xo_nil ?_
          refine xq_seq ?_
          refine xc_ret ?_
        exact xq_sub (L' := (r2, .cells #[.slice s i k, .string ⟨#[]⟩] 57 (0, 0)) :: (l ++ L)) (.cons _ (.cons _ (.cons_cons _ (.cons _ (List.Sublist.refl _))))) (xq_retB2 (.inl rfl) Try.results43 rfl rfl Kn.o0 rfl (List.sublist_cons_self _ _) ⟨s, k, l, by rw [hyl]; rfl, by rw [hyl]; exact hO, rfl⟩)
      · rw [if_neg h0]
        focus
          refine xc_seq ?_
          refine xc_region ?_
          refine xo_rd (rd_lss rfl rfl) rfl ?_
          refine xo_nil ?_
          refine xq_seq ?_
          refine xc_seq ?_
          refine xc_dec rfl (fun hq1 => (by exfalso; omega)) (fun hq1 => ?_)
          refine xc_exit ?_
          refine xq_then_exit ?_
          refine xq_then_exit ?_
          refine xq_block_hit ?_
          refine xq_seq ?_
          refine xc_seq ?_
          refine xc_seq ?_
          refine xc_region ?_
          refine xo_rd (rd_move rfl) rfl ?_
          refine xo_rd (rd_nilCheck rfl) rfl ?_
          refine xo_rd (rd_fieldAddr rfl) rfl ?_
          refine xo_rd (rd_load1 rfl (hld _ _)) rfl ?_
          refine xo_rd (rd_len rfl) rfl ?_
          refine xo_rd (rd_gtr rfl rfl) rfl ?_
          refine xo_nil ?_
          refine xq_seq ?_
          refine xc_dec rfl (fun hq2 => (by exfalso; omega)) (fun hq2 => ?_)
          refine xc_skip ?_
          refine xq_seq ?_
          refine xc_seq ?_
          refine xc_seq ?_
          refine xc_region ?_
          refine xo_rd (rd_move rfl) rfl ?_
          refine xo_rd (rd_loadB rfl Kn.o3 (by rfl)) rfl ?_
          refine xo_ef rfl (ef_call rfl (XF.mono (XF.mid [_] (htold _ _ _ he hB2 _)) ?_))
          rintro v L' ⟨rfl, rfl⟩
          refine xo_mid [_] ?_
          refine xo_rd (rd_assign rfl) rfl ?_
          refine xo_nil ?_
          refine xq_seq ?_
          refine xc_seq ?_
          refine xc_region ?_
          refine xo_rd (rd_move rfl) rfl ?_
          refine xo_rd (rd_neq rfl rfl) rfl ?_
          refine xo_nil ?_
          refine xq_seq ?_
          refine xc_ndec rfl (fun hq3 => ?_) (fun hq3 => (by exfalso; omega))
          refine xc_seq ?_
          refine xc_region ?_
          refine xo_rd (rd_build rfl rfl rfl) rfl ?_
          refine xo_rd (rd_move rfl) rfl ?_
          refine xo_ef rfl (ef_storeB [_, _] _ rfl rfl (by first | rfl | assumption) rfl rfl rfl ?_)
          refine xo_rd (rd_assign rfl) rfl ?_
          refine xo_nil ?_
          refine xq_seq ?_
          refine xc_ret ?_
          refine xq_then_ret ?_
        exact xq_retB2 (.inl rfl) Try.results43 rfl rfl Kn.o2 rfl ((List.sublist_append_right l L).trans (.cons _ (.cons _ (.cons _ (.cons _ (List.Sublist.refl _)))))) (ByM.err e)
end Go.Proofs.Ytohlaabclifbfaa.X
