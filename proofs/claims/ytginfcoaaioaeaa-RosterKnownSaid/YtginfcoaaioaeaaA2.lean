/-
  The roster's memory, and its functions, by walks of my own.
-/
import Derived.Test.YtginfcoaaioaeaaA1
namespace Go.Proofs.Ytginfcoaaioaeaa.X
open Go Go.RowKit
set_option linter.unusedVariables false
set_option linter.unusedSimpArgs false
/-! ### what the document has -/
def Mb.src (m : Mb) (s : Int) : Bool := m.content == s || m.camera == s
def getId (l : List Mb) (id : Int) : Option Mb := l.find? (fun m => m.id == id)
def getSrc (l : List Mb) (s : Int) : Option Mb := l.find? (fun m => m.src s)
def srcs (l : List Mb) : List Int := l.flatMap fun m => [m.content, m.camera]
def Mb.right (m : Mb) : Prop := ¬(m.id < 0 ∨ m.content = 0 ∨ m.camera = 0 ∨ m.content = m.camera)
instance (m : Mb) : Decidable m.right := by unfold Mb.right; infer_instance
/-- Join's answer. -/
def joinE (most : Int) (l : List Mb) (m : Mb) : Int :=
  if ¬ m.right then 2 else if (getId l m.id).isSome then 132 else if (getSrc l m.content).isSome ∨ (getSrc l m.camera).isSome then 140 else if most ≤ l.length then 131 else 0
def joinL (most : Int) (l : List Mb) (m : Mb) : List Mb := if joinE most l m = 0 then l ++ [m] else l
def leaveE (l : List Mb) (id : Int) : Int := if (getId l id).isSome then 0 else 130
def leaveL (l : List Mb) (id : Int) : List Mb := l.eraseP (fun m => m.id == id)
/-- All are right, and none is twice. -/
structure Fit (most : Int) (l : List Mb) : Prop where
  ids : (l.map Mb.id).Nodup
  src : (srcs l).Nodup
  right : ∀ m, m ∈ l → m.right
  len : (l.length : Int) ≤ most
  most : 0 ≤ most ∧ most ≤ 32
/-! ### its memory -/
structure Ro where
  most : Int
  ms : List Mb
  c : Nat
  mv : Value
  ml : List Blk
  mb : Nat
  mo : Obj
  sz : Nat
def Ro.cells (x : Ro) : List Value := [.int .i64 x.most, x.mv, .map (some x.mb)]
def Ro.blks (x : Ro) : List Blk := (x.c, .cells x.cells.toArray 59 (0, 0)) :: (x.mb, x.mo) :: x.ml
def srcOf (l : List Mb) (s : Int) : Option Value := (getSrc l s).map fun m => .int .i64 m.id
structure Ro.Ok (x : Ro) : Prop where
  o : SlO 4 31 x.mv x.ms.length (x.ms.flatMap Mb.enc) x.ml
  map : MpIs .u32 x.mo (srcOf x.ms) x.sz
  fit : Fit x.most x.ms
theorem Mb.one (l : List Mb) : (l.flatMap Mb.enc).all (·.oneCell') = true := by
  rw [List.all_eq_true]
  intro v hv
  obtain ⟨x, _, hx⟩ := List.mem_flatMap.1 hv
  simp only [Mb.enc, List.mem_cons, List.not_mem_nil, or_false] at hx
  rcases hx with rfl | rfl | rfl | rfl <;> rfl
theorem Ro.blks_app (x : Ro) (L : List Blk) : x.blks ++ L = (x.c, .cells x.cells.toArray 59 (0, 0)) :: (x.mb, x.mo) :: (x.ml ++ L) := by simp [Ro.blks]
theorem ix_cases (l : List Mb) (id : Int) : (ixOf (l.map Mb.id) id = -1 ∧ getId l id = none ∧ leaveL l id = l) ∨ ∃ i, ∃ hi : i < l.length, ixOf (l.map Mb.id) id = i ∧ getId l id = some l[i] ∧ l[i].id = id ∧ leaveL l id = l.eraseIdx i := by
  unfold leaveL getId
  rw [List.eraseP_eq_eraseIdx]
  unfold ixOf
  rw [List.findIdx?_map]
  have e : (fun x : Int => x == id) ∘ Mb.id = fun q : Mb => q.id == id := rfl
  rw [e]
  cases h : l.findIdx? (fun q => q.id == id) with
  | none =>
    refine .inl ⟨rfl, ?_, rfl⟩
    rw [List.find?_eq_none]
    exact fun x hx => by have := List.findIdx?_eq_none_iff.1 h x hx; simp [this]
  | some i =>
    obtain ⟨hi, h1, h2⟩ := List.findIdx?_eq_some_iff_getElem.1 h
    refine .inr ⟨i, hi, rfl, ?_, by simpa using h1, rfl⟩
    rw [List.find?_eq_some_iff_getElem]
    exact ⟨h1, i, hi, rfl, fun j hj => by simpa using h2 j hj⟩
theorem xf_place {W : World} {L : List Blk} (x : Ro) (hx : x.Ok) (id : Int) : XF Try.prog W 21 #[.pointer (some ⟨x.c, 0, none⟩), .int .i64 id] (x.blks ++ L) (fun v L' => v = .int .i64 (ixOf (x.ms.map Mb.id) id) ∧ L' = x.blks ++ L) := by
  rw [Ro.blks_app]
  obtain ⟨most, ms, c, mv, ml, mb, mo, sz⟩ := x
  obtain ⟨hO, hm, hf⟩ := hx
  dsimp only [Ro.cells] at *
  obtain ⟨p, k, rfl, hO, hk⟩ := hO.opn
  have hl := hf.len
  have hl2 := hf.most
  refine xf_enter (args := [_, _]) Try.func21 rfl Try.ntmps21 rfl ?_
  focus
    refine xc_seq ?_
    refine xc_region ?_
    refine xo_ef rfl (ef_box rfl fun r3 => ?_)
    refine xo_rd (rd_assign rfl) rfl ?_
    refine xo_nil ?_
    refine xq_seq ?_
    refine xc_seq ?_
    refine xc_seq ?_
    refine xc_region ?_
    refine xo_rd (rd_move rfl) rfl ?_
    refine xo_rd (rd_eqnil rfl) rfl ?_
    refine xo_nil ?_
    refine xq_seq ?_
    refine xc_condf rfl ?_
    refine xc_skip ?_
    refine xq_seq ?_
    refine xc_seq ?_
    refine xc_region ?_
    refine xo_rd (rd_move rfl) rfl ?_
    refine xo_rd (rd_nilCheck rfl) rfl ?_
    refine xo_rd (rd_fieldAddr rfl) rfl ?_
    refine xo_rd (rd_load1 rfl (Cl.o1 rfl)) rfl ?_
    refine xo_rd (rd_makeFunc rfl rfl) rfl ?_
    refine xo_ef rfl (ef_call rfl (XF.mono (xf_indexId _ _ _ ms r3 id rfl (hO.rs (by intro z hz; simp [hz])) (Cl.o0 rfl) (by omega)) ?_))
    rintro v L' ⟨rfl, rfl⟩
    refine xo_rd (rd_assign rfl) rfl ?_
    refine xo_nil ?_
    refine xq_seq ?_
    refine xc_ret ?_
    exact xq_tail (xq_ret1 (.inl rfl) Try.results21 rfl (⟨rfl, rfl⟩))
theorem xf_get {W : World} {L : List Blk} (x : Ro) (hx : x.Ok) (id : Int) : XF Try.prog W 9 #[.pointer (some ⟨x.c, 0, none⟩), .int .i64 id] (x.blks ++ L) (fun v L' => v = .tuple #[.agg ((getId x.ms id).getD ⟨0, 0, 0, false⟩).enc.toArray, .bool (getId x.ms id).isSome] ∧ L' = x.blks ++ L) := by
  have hO := hx.o
  have hl := hx.fit.len
  have hl2 := hx.fit.most
  refine xf_enter (args := [_, _]) Try.func9 rfl Try.ntmps9 rfl ?_
  rcases ix_cases x.ms id with ⟨he, hg, _⟩ | ⟨i, hi, he, hg, _, _⟩
  · have hpl : ∀ L, XF Try.prog W 21 #[.pointer (some ⟨x.c, 0, none⟩), .int .i64 id] (x.blks ++ L) (fun v L' => v = .int .i64 (-1) ∧ L' = x.blks ++ L) := fun L => by have := xf_place (W := W) (L := L) x hx id; rw [he] at this; exact this
    rw [hg]
    focus
      refine xc_seq ?_
      refine xc_region ?_
      refine xo_ef rfl (ef_alloc fun r4 => ?_)
      refine xo_rd (rd_assign rfl) rfl ?_
      refine xo_nil ?_
      refine xq_seq ?_
      refine xc_seq ?_
      refine xc_region ?_
      refine xo_rd (rd_move rfl) rfl ?_
      refine xo_rd (rd_move rfl) rfl ?_
      refine xo_ef rfl (ef_call rfl (XF.mono (XF.seg [_] x.blks L (hpl _)) ?_))
      rintro v L' ⟨rfl, rfl⟩
      refine xo_seg [_] x.blks L ?_
      refine xo_rd (rd_assign rfl) rfl ?_
      refine xo_nil ?_
      refine xq_seq ?_
      refine xc_seq ?_
      refine xc_seq ?_
      refine xc_region ?_
      refine xo_rd (rd_move rfl) rfl ?_
      refine xo_rd (rd_lss rfl rfl) rfl ?_
      refine xo_nil ?_
      refine xq_seq ?_
      refine xc_condt rfl ?_
      refine xc_seq ?_
      refine xc_region ?_
      refine xo_rd (rd_build rfl rfl rfl) rfl ?_
      refine xo_ef rfl (ef_storeB [] _ rfl rfl (by first | rfl | assumption) rfl rfl rfl ?_)
      refine xo_rd (rd_assign rfl) rfl ?_
      refine xo_nil ?_
      refine xq_seq ?_
      refine xc_ret ?_
      refine xq_then_ret ?_
    exact xq_retB2 (.inl rfl) Try.results9 rfl rfl Kn.o0 rfl (List.sublist_cons_self _ _) ⟨rfl, rfl⟩
  · have hpl : ∀ L, XF Try.prog W 21 #[.pointer (some ⟨x.c, 0, none⟩), .int .i64 id] (x.blks ++ L) (fun v L' => v = .int .i64 i ∧ L' = x.blks ++ L) := fun L => by have := xf_place (W := W) (L := L) x hx id; rw [he] at this; exact this
    rw [hg]
    obtain ⟨p, k, hv, hO, hk⟩ := hO.opn
    have hld : Cl W (x.blks ++ L) x.c (0 + 1) (.slice p x.ms.length k) := by rw [Ro.blks_app, ← hv]; exact Cl.o0 rfl
    obtain ⟨b, o, rfl, hc⟩ := (hO.rs (W := W) (L := x.blks ++ L) (by intro z hz; rw [Ro.blks_app]; simp [hz])).row Mb.len (by decide) hi
    focus
      refine xc_seq ?_
      refine xc_region ?_
      refine xo_ef rfl (ef_alloc fun r4 => ?_)
      refine xo_rd (rd_assign rfl) rfl ?_
      refine xo_nil ?_
      refine xq_seq ?_
      refine xc_seq ?_
      refine xc_region ?_
      refine xo_rd (rd_move rfl) rfl ?_
      refine xo_rd (rd_move rfl) rfl ?_
      refine xo_ef rfl (ef_call rfl (XF.mono (XF.seg [_] x.blks L (hpl _)) ?_))
      rintro v L' ⟨rfl, rfl⟩
      refine xo_seg [_] x.blks L ?_
      refine xo_rd (rd_assign rfl) rfl ?_
      refine xo_nil ?_
      refine xq_seq ?_
      refine xc_seq ?_
      refine xc_seq ?_
      refine xc_region ?_
      refine xo_rd (rd_move rfl) rfl ?_
      refine xo_rd (rd_lss rfl rfl) rfl ?_
      refine xo_nil ?_
      refine xq_seq ?_
      refine xc_condf rfl ?_
      refine xc_skip ?_
      refine xq_seq ?_
      refine xc_seq ?_
      refine xc_region ?_
      refine xo_rd (rd_move rfl) rfl ?_
      refine xo_rd (rd_nilCheck rfl) rfl ?_
      refine xo_rd (rd_fieldAddr rfl) rfl ?_
      refine xo_rd (rd_load1 rfl hld.skip) rfl ?_
      refine xo_rd (rd_move rfl) rfl ?_
      refine xo_rd (rd_indexAddr rfl rfl (by omega) (by omega)) rfl ?_
      refine xo_rd (rd_loadA (vs := x.ms[i].enc) rfl rfl (fun j u hj => (hc j u hj).skip)) rfl ?_
      refine xo_ef rfl (ef_storeB [] _ rfl rfl (by first | rfl | assumption) rfl rfl rfl ?_)
      refine xo_rd (rd_assign rfl) rfl ?_
      refine xo_nil ?_
      refine xq_seq ?_
      refine xc_ret ?_
    exact xq_retB2 (.inl rfl) Try.results9 rfl rfl Kn.o0 rfl (List.sublist_cons_self _ _) ⟨rfl, rfl⟩
theorem xf_all {W : World} {L : List Blk} (x : Ro) (hx : x.Ok) : XF Try.prog W 13 #[.pointer (some ⟨x.c, 0, none⟩)] (x.blks ++ L) (fun v L' => ∃ p k l, v = .slice p x.ms.length k ∧ SlO 4 31 (.slice p x.ms.length k) x.ms.length (x.ms.flatMap Mb.enc) l ∧ x.ms.length ≤ k ∧ L' = l ++ (x.blks ++ L)) := by
  have hl := hx.fit.len
  have hl2 := hx.fit.most
  obtain ⟨p, k, hv, hO, hk⟩ := hx.o.opn
  have hld : Cl W (x.blks ++ L) x.c (0 + 1) (.slice p x.ms.length k) := by rw [Ro.blks_app, ← hv]; exact Cl.o0 rfl
  refine xf_enter (args := [_]) Try.func13 rfl Try.ntmps13 rfl ?_
  focus
    refine xc_seq ?_
    refine xc_region ?_
    refine xo_rd (rd_assign rfl) rfl ?_
    refine xo_nil ?_
    refine xq_seq ?_
    refine xc_seq ?_
    refine xc_seq ?_
    refine xc_region ?_
    refine xo_rd (rd_move rfl) rfl ?_
    refine xo_rd (rd_eqnil rfl) rfl ?_
    refine xo_nil ?_
    refine xq_seq ?_
    refine xc_condf rfl ?_
    refine xc_skip ?_
    refine xq_seq ?_
    refine xc_seq ?_
    refine xc_region ?_
    refine xo_rd (rd_move rfl) rfl ?_
    refine xo_rd (rd_nilCheck rfl) rfl ?_
    refine xo_rd (rd_fieldAddr rfl) rfl ?_
    refine xo_rd (rd_load1 rfl hld) rfl ?_
    refine xo_ef rfl (ef_call rfl (XF.mono (xf_cloneM _ _ _ _ (by rw [flat_length Mb.enc Mb.len]) (hO.rs fun z hz => by rw [Ro.blks_app]; simp [hz]) (Mb.one _) (by omega)) ?_))
    rintro v L' ⟨qb, cb, lb, rfl, hqb, hcb, rfl⟩
    refine xo_rd (rd_assign rfl) rfl ?_
    refine xo_nil ?_
    refine xq_seq ?_
    refine xc_ret ?_
  exact xq_ret1 (.inl rfl) Try.results13 rfl ⟨qb, cb, lb, rfl, hqb, hcb, rfl⟩
theorem xf_len {W : World} {L : List Blk} (x : Ro) (hx : x.Ok) : XF Try.prog W 20 #[.pointer (some ⟨x.c, 0, none⟩)] (x.blks ++ L) (fun v L' => v = .int .i64 x.ms.length ∧ L' = x.blks ++ L) := by
  refine xf_enter (args := [_]) Try.func20 rfl Try.ntmps20 rfl ?_
  focus
    refine xc_seq ?_
    refine xc_region ?_
    refine xo_rd (rd_assign rfl) rfl ?_
    refine xo_nil ?_
    refine xq_seq ?_
    refine xc_seq ?_
    refine xc_region ?_
    refine xo_rd (rd_move rfl) rfl ?_
    refine xo_ef rfl (ef_call rfl (XF.mono (xf_all x hx) ?_))
    rintro v L' ⟨qb, cb, lb, rfl, hqb, hcb, rfl⟩
    refine xo_rd (rd_len rfl) rfl ?_
    refine xo_rd (rd_assign rfl) rfl ?_
    refine xo_nil ?_
    refine xq_seq ?_
    refine xc_ret ?_
  refine xq_sub (L' := x.blks ++ L) (List.sublist_append_right _ _) ?_
  exact xq_ret1 (.inl rfl) Try.results20 rfl ⟨rfl, rfl⟩
theorem xf_new_bad {W : World} {L : List Blk} (most : Int) (hs : most < 0 ∨ 32 < most) : XF Try.prog W 7 #[.int .i64 most] L (fun v L' => v = .tuple #[.pointer none, .int .i64 2] ∧ L' = L) := by
  refine xf_enter (args := [_]) Try.func7 rfl Try.ntmps7 rfl ?_
  focus
    refine xc_seq ?_
    refine xc_region ?_
    refine xo_rd (rd_assign rfl) rfl ?_
    refine xo_rd (rd_assign rfl) rfl ?_
    refine xo_nil ?_
    refine xq_seq ?_
    refine xc_seq ?_
    refine xc_seq ?_
    refine xc_region ?_
    refine xo_rd (rd_move rfl) rfl ?_
    refine xo_rd (rd_lss rfl rfl) rfl ?_
    refine xo_rd (rd_move rfl) rfl ?_
    refine xo_dec 6 rfl (fun h1 => ?_) (fun h1 => ?_)
    refine xo_gskip rfl rfl rfl rfl ?_
    refine xo_gskip rfl rfl rfl rfl ?_
    refine xo_rd (rd_pickt rfl rfl) rfl ?_
    refine xo_nil ?_
    refine xq_seq ?_
    refine xc_condt rfl ?_
    refine xc_seq ?_
    refine xc_region ?_
    refine xo_rd (rd_assign rfl) rfl ?_
    refine xo_rd (rd_assign rfl) rfl ?_
    refine xo_nil ?_
    refine xq_seq ?_
    refine xc_ret ?_
    refine xq_then_ret ?_
    exact xq_ret2 (.inl rfl) Try.results7 rfl rfl (⟨rfl, rfl⟩)
    refine xo_grd rfl rfl (rd_move rfl) rfl ?_
    refine xo_grd rfl rfl (rd_gtr rfl rfl) rfl ?_
    refine xo_rd (rd_pickf rfl rfl) rfl ?_
    refine xo_nil ?_
    refine xq_seq ?_
    refine xc_dec rfl (fun h2 => ?_) (fun h2 => (by exfalso; omega))
    refine xc_seq ?_
    refine xc_region ?_
    refine xo_rd (rd_assign rfl) rfl ?_
    refine xo_rd (rd_assign rfl) rfl ?_
    refine xo_nil ?_
    refine xq_seq ?_
    refine xc_ret ?_
    refine xq_then_ret ?_
    exact xq_ret2 (.inl rfl) Try.results7 rfl rfl (⟨rfl, rfl⟩)
theorem xf_new {W : World} {L : List Blk} (most : Int) (hs : 0 ≤ most ∧ most ≤ 32) : XF Try.prog W 7 #[.int .i64 most] L (fun v L' => ∃ x : Ro, x.Ok ∧ v = .tuple #[.pointer (some ⟨x.c, 0, none⟩), .int .i64 0] ∧ x.most = most ∧ x.ms = [] ∧ L' = x.blks ++ L) := by
  refine xf_enter (args := [_]) Try.func7 rfl Try.ntmps7 rfl ?_
  focus
    refine xc_seq ?_
    refine xc_region ?_
    refine xo_rd (rd_assign rfl) rfl ?_
    refine xo_rd (rd_assign rfl) rfl ?_
    refine xo_nil ?_
    refine xq_seq ?_
    refine xc_seq ?_
    refine xc_seq ?_
    refine xc_region ?_
    refine xo_rd (rd_move rfl) rfl ?_
    refine xo_rd (rd_lss rfl rfl) rfl ?_
    refine xo_rd (rd_move rfl) rfl ?_
    refine xo_dec 6 rfl (fun h1 => (by exfalso; omega)) (fun h1 => ?_)
    refine xo_grd rfl rfl (rd_move rfl) rfl ?_
    refine xo_grd rfl rfl (rd_gtr rfl rfl) rfl ?_
    refine xo_rd (rd_pickf rfl rfl) rfl ?_
    refine xo_nil ?_
    refine xq_seq ?_
    refine xc_dec rfl (fun h2 => (by exfalso; omega)) (fun h2 => ?_)
    refine xc_skip ?_
    refine xq_seq ?_
    refine xc_seq ?_
    refine xc_region ?_
    refine xo_rd (rd_move rfl) rfl ?_
    refine xo_ef rfl (ef_makeMap fun r11 => ?_)
    refine xo_rd (rd_build rfl rfl rfl) rfl ?_
    refine xo_ef rfl (ef_box rfl fun r13 => ?_)
    refine xo_rd (rd_assign rfl) rfl ?_
    refine xo_rd (rd_assign rfl) rfl ?_
    refine xo_nil ?_
    refine xq_seq ?_
    refine xc_ret ?_
  exact xq_ret2 (.inl rfl) Try.results7 rfl rfl ⟨⟨most, [], r13, .slice none 0 0, [], r11, .map #[] 0, 0⟩, ⟨SlO.nil, MpIs.empty, List.nodup_nil, List.nodup_nil, (fun _ h => by cases h), hs.1, hs⟩, rfl, rfl, rfl, rfl⟩
end Go.Proofs.Ytginfcoaaioaeaa.X
