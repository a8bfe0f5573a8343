/-
  Texts of my own, put together: walks and laws for this seat. No condition.
-/
import Derived.Test.YtmdeajdaeihniaaGreatM8
/-
  Chapter 25: what a room is, wherever it lies; calls of its roster and of its floor: walks of my own.
-/
namespace Go.Proofs.YtmdeajdaeihniaaGreat.X
open Go Go.RowKit
set_option linter.unusedVariables false
set_option linter.unusedSimpArgs false
/-- What somebody watches, by itself. -/
structure Wa where
  id : Int
  ct : Bool
  cs : List Int
/-- In memory. -/
structure Wm where
  a : Wa
  p : Option Addr
  c : Nat
  l : List Blk
def Wm.enc (w : Wm) : List Value := [.bool w.a.ct, .slice w.p w.a.cs.length w.c]
def Wm.v (w : Wm) : Value := .agg w.enc.toArray
def wlb (ws : List Wm) : List Blk := ws.flatMap Wm.l
def watF (ws : List Wm) (id : Int) : Option Wm := ws.find? fun w => w.a.id == id
def watV (ws : List Wm) (id : Int) : Option Value := (watF ws id).map Wm.v
def wfA (ws : List Wa) (id : Int) : Option Wa := ws.find? fun w => w.id == id
structure Rm where
  ro : Ro
  fr : Nat
  fm : Fm
  mb : Nat
  mo : Obj
  ws : List Wm
def rcl (a b m : Nat) : List Value := [.pointer (some ⟨a, 0, none⟩), .pointer (some ⟨b, 0, none⟩), .map (some m)]
def Rm.blks (r : Nat) (x : Rm) (L : List Blk) : List Blk := (r, .cells (rcl x.ro.c x.fr x.mb).toArray 81 (0, 0)) :: (x.mb, x.mo) :: (wlb x.ws ++ (x.ro.blks ++ x.fm.blks x.fr L))
def Rm.was (x : Rm) : List Wa := x.ws.map Wm.a
structure Wm.Ok (w : Wm) : Prop where
  sl : SlQ 1 3 (.slice w.p w.a.cs.length w.c) w.a.cs.length (ints .i64 w.a.cs) w.l
  few : w.a.cs.length ≤ 1000000
structure Rm.Ok (x : Rm) : Prop where
  ro : x.ro.Ok
  fm : x.fm.Ok
  mp : MpIs .i64 x.mo (watV x.ws) x.ws.length
  wo : ∀ w, w ∈ x.ws → w.Ok
  ids : x.ws.map (fun w => w.a.id) = x.ro.ms.map Mb.id
  rg : ∀ m, m ∈ x.ro.ms → m.id ≤ 2147483647
theorem perm_ro {a b : Blk} (w m F : List Blk) : (a :: b :: (w ++ (m ++ F))).Perm (m ++ (a :: b :: (w ++ F))) := (by classical exact List.perm_iff_count.2 fun a => by simp only [List.append_eq, List.count_append, List.count_cons, List.count_nil, List.cons_append, List.nil_append, List.flatMap_append, List.flatMap_cons, List.flatMap_nil, List.append_nil]; omega)
theorem Rm.perm_ro (r : Nat) (x : Rm) (L : List Blk) : (x.blks r L).Perm (x.ro.blks ++ ((r, .cells (rcl x.ro.c x.fr x.mb).toArray 81 (0, 0)) :: (x.mb, x.mo) :: (wlb x.ws ++ x.fm.blks x.fr L))) := X.perm_ro _ _ _
theorem Rm.perm_fm (r : Nat) (x : Rm) (L : List Blk) : (x.blks r L).Perm (x.fm.blks x.fr (((r, .cells (rcl x.ro.c x.fr x.mb).toArray 81 (0, 0)) :: (x.mb, x.mo) :: (wlb x.ws ++ x.ro.blks)) ++ L)) := by
  refine List.Perm.trans ?_ (Fm.blks_perm x.fr x.fm _ L)
  unfold Rm.blks
  rw [List.cons_append, List.cons_append, List.append_assoc]
theorem perm_front {a b : Blk} (A w m F : List Blk) (F' : List Blk) (h : (A ++ F).Perm F') : (A ++ (a :: b :: (w ++ (m ++ F)))).Perm (a :: b :: (w ++ (m ++ F'))) := by
  refine List.Perm.trans ?_ (((h.append_left m).append_left w).cons b |>.cons a)
  exact (by classical exact List.perm_iff_count.2 fun a => by simp only [List.append_eq, List.count_append, List.count_cons, List.count_nil, List.cons_append, List.nil_append, List.flatMap_append, List.flatMap_cons, List.flatMap_nil, List.append_nil]; omega)
theorem Rm.front (r : Nat) (x : Rm) (A L : List Blk) : (A ++ x.blks r L).Perm (x.blks r (A ++ L)) := perm_front A _ _ _ _ (Fm.blks_perm x.fr x.fm A L)
theorem Rm.sub (r : Nat) (x : Rm) (L : List Blk) : L.Sublist (x.blks r L) := ((((Fm.blks_sub x.fr x.fm L).trans (List.sublist_append_right x.ro.blks _)).trans (List.sublist_append_right (wlb x.ws) _)).trans (List.sublist_cons_self _ _)).trans (List.sublist_cons_self _ _)
theorem Rm.cl {W : World} {L L' : List Blk} {r : Nat} {x : Rm} (h : ∀ z, z ∈ x.blks r L → z ∈ L') : ∀ (j : Nat) (u : Value), (rcl x.ro.c x.fr x.mb)[j]? = some u → Cl W L' r j u := fun j u hj => Cl.own (h _ List.mem_cons_self) (by simpa using hj)
theorem Rm.kn {W : World} {L L' : List Blk} {r : Nat} {x : Rm} (h : ∀ z, z ∈ x.blks r L → z ∈ L') : Kn W L' x.mb x.mo := .inr (h _ (List.mem_cons_of_mem _ List.mem_cons_self))
theorem xr_ids {W : World} {L : List Blk} (r : Nat) (x : Rm) (hx : x.Ok) : XF Tryz.prog W 87 #[.pointer (some ⟨x.ro.c, 0, none⟩)] (x.blks r L) (fun v L' => ∃ p k l, v = .slice p x.ro.ms.length k ∧ SlO 1 3 (.slice p x.ro.ms.length k) x.ro.ms.length (ints .i64 (x.ro.ms.map Mb.id)) l ∧ L' = l ++ x.blks r L) :=
  ((xf_ids x.ro hx.ro).perm (x.perm_ro r L)).mapK fun v L' ⟨p, k, l, hv, hO, hL⟩ => ⟨l ++ x.blks r L, hL ▸ (x.perm_ro r L).symm.append_left l, p, k, l, hv, hO, rfl⟩
theorem xr_get {W : World} {L : List Blk} (r : Nat) (x : Rm) (hx : x.Ok) (id : Int) : XF Tryz.prog W 55 #[.pointer (some ⟨x.ro.c, 0, none⟩), .int .i64 id] (x.blks r L) (fun v L' => v = .tuple #[.agg ((getId x.ro.ms id).getD ⟨0, 0, 0, false⟩).enc.toArray, .bool (getId x.ro.ms id).isSome] ∧ L' = x.blks r L) :=
  (xf_get x.ro hx.ro id).permK (x.perm_ro r L)
theorem xr_src {W : World} {L : List Blk} (r : Nat) (x : Rm) (hx : x.Ok) (s : Int) : XF Tryz.prog W 86 #[.pointer (some ⟨x.ro.c, 0, none⟩), .int .u32 s] (x.blks r L) (fun v L' => v = .tuple #[.agg ((getSrc x.ro.ms s).getD ⟨0, 0, 0, false⟩).enc.toArray, .bool ((getSrc x.ro.ms s).any fun m => decide (m.content = s)), .bool (getSrc x.ro.ms s).isSome] ∧ L' = x.blks r L) := by
  cases h : getSrc x.ro.ms s with
  | none => exact (xf_source_none x.ro hx.ro s h).permK (x.perm_ro r L)
  | some m => exact (xf_source_some x.ro hx.ro s m h).permK (x.perm_ro r L)
/-- A call of the floor's, told of the room. -/
theorem xr_fl {W : World} {L : List Blk} (r : Nat) (x : Rm) {f : FuncId} {args : Array Value} {φ : Value → Prop} {a : Fa} (h : ∀ L, XF Tryz.prog W f args (x.fm.blks x.fr L) (fun v L' => φ v ∧ ∃ y : Fm, y.Ok ∧ y.a = a ∧ L' = y.blks x.fr L)) : XF Tryz.prog W f args (x.blks r L) (fun v L' => φ v ∧ ∃ y : Fm, y.Ok ∧ y.a = a ∧ L' = (Rm.mk x.ro x.fr y x.mb x.mo x.ws).blks r L) :=
  ((h _).perm (x.perm_fm r L)).mapK fun v L' ⟨hv, y, hy, hya, hL⟩ => ⟨_, hL ▸ ((Rm.mk x.ro x.fr y x.mb x.mo x.ws).perm_fm r L).symm, hv, y, hy, hya, rfl⟩
theorem Rm.fr' {W : World} {L L' : List Blk} {r : Nat} {x : Rm} (hx : x.Ok) (h : ∀ z, z ∈ x.blks r L → z ∈ L') : FR W L' x.fr x.fm :=
  hx.fm.fr0 (L := ((r, .cells (rcl x.ro.c x.fr x.mb).toArray 81 (0, 0)) :: (x.mb, x.mo) :: (wlb x.ws ++ x.ro.blks)) ++ L) fun z hz => h z ((x.perm_fm r L).mem_iff.2 hz)
theorem xf_RIds {W : World} {L : List Blk} (r : Nat) (x : Rm) (hx : x.Ok) : XF Tryz.prog W 50 #[.pointer (some ⟨r, 0, none⟩)] (x.blks r L) (fun v L' => ∃ p k l, v = .slice p x.ro.ms.length k ∧ SlO 1 3 (.slice p x.ro.ms.length k) x.ro.ms.length (ints .i64 (x.ro.ms.map Mb.id)) l ∧ L' = l ++ x.blks r L) := by
  refine xf_enter (args := [_]) Tryz.func50 rfl Tryz.ntmps50 rfl ?_
  focus
    refine xc_seq ?_
    refine xc_region ?_
    refine xo_rd (rd_assign rfl) rfl ?_
    refine xo_nil ?_
    refine xq_seq ?_
    refine xc_seq ?_
    refine xc_seq ?_
    refine xc_region ?_
    refine xo_rd (rd_move rfl) rfl ?_
    refine xo_rd (rd_eqnil rfl) rfl ?_
    refine xo_nil ?_
    refine xq_seq ?_
    refine xc_condf rfl ?_
    refine xc_skip ?_
    refine xq_seq ?_
    refine xc_seq ?_
    refine xc_region ?_
    refine xo_rd (rd_move rfl) rfl ?_
    refine xo_rd (rd_nilCheck rfl) rfl ?_
    refine xo_rd (rd_fieldAddr rfl) rfl ?_
    refine xo_rd (rd_fieldAddr rfl) rfl ?_
    refine xo_rd (rd_load1 rfl (Cl.o0 rfl)) rfl ?_
    refine xo_ef rfl (ef_call rfl (XF.mono (xr_ids r x hx) ?_))
    rintro v L' ⟨p, k, l, rfl, hO, rfl⟩
    refine xo_rd (rd_assign rfl) rfl ?_
    refine xo_nil ?_
    refine xq_seq ?_
    refine xc_ret ?_
  exact xq_ret1 (.inl rfl) Tryz.results50 rfl ⟨p, k, l, rfl, hO, rfl⟩
theorem xf_RHolder {W : World} {L : List Blk} (r : Nat) (x : Rm) (hx : x.Ok) : XF Tryz.prog W 43 #[.pointer (some ⟨r, 0, none⟩)] (x.blks r L) (fun v L' => v = .tuple #[.agg (gEnc (x.fm.a.no, x.fm.a.who, x.fm.a.at')).toArray, .bool x.fm.a.held] ∧ L' = x.blks r L) := by
  refine xf_enter (args := [_]) Tryz.func43 rfl Tryz.ntmps43 rfl ?_
  focus
    refine xc_seq ?_
    refine xc_region ?_
    refine xo_ef rfl (ef_alloc fun r2 => ?_)
    refine xo_rd (rd_assign rfl) rfl ?_
    refine xo_nil ?_
    refine xq_seq ?_
    refine xc_seq ?_
    refine xc_seq ?_
    refine xc_region ?_
    refine xo_rd (rd_move rfl) rfl ?_
    refine xo_rd (rd_eqnil rfl) rfl ?_
    refine xo_nil ?_
    refine xq_seq ?_
    refine xc_condf rfl ?_
    refine xc_skip ?_
    refine xq_seq ?_
    refine xc_seq ?_
    refine xc_region ?_
    refine xo_rd (rd_move rfl) rfl ?_
    refine xo_rd (rd_nilCheck rfl) rfl ?_
    refine xo_rd (rd_fieldAddr rfl) rfl ?_
    refine xo_rd (rd_load1 rfl (Cl.o1 rfl)) rfl ?_
    refine xo_ef rfl (ef_call rfl (XF.mono (xf_Holder x.fr x.fm (Rm.fr' (L := L) (r := r) hx (by intro z hz; simp [hz]))) ?_))
    rintro v L' ⟨rfl, rfl⟩
    refine xo_rd (rd_extract rfl rfl) rfl ?_
    refine xo_rd (rd_extract rfl rfl) rfl ?_
    refine xo_ef rfl (ef_storeB [] _ rfl rfl (by first | rfl | assumption) rfl rfl rfl ?_)
    refine xo_rd (rd_assign rfl) rfl ?_
    refine xo_nil ?_
    refine xq_seq ?_
    refine xc_ret ?_
  exact xq_retB2 (.inl rfl) Tryz.results43 rfl rfl Kn.o0 rfl (List.sublist_cons_self _ _) ⟨rfl, rfl⟩
theorem xf_RPending {W : World} {L : List Blk} (r : Nat) (x : Rm) (hx : x.Ok) : XF Tryz.prog W 45 #[.pointer (some ⟨r, 0, none⟩)] (x.blks r L) (fun v L' => v = .bool x.fm.a.pend ∧ L' = x.blks r L) := by
  refine xf_enter (args := [_]) Tryz.func45 rfl Tryz.ntmps45 rfl ?_
  focus
    refine xc_seq ?_
    refine xc_region ?_
    refine xo_rd (rd_assign rfl) rfl ?_
    refine xo_nil ?_
    refine xq_seq ?_
    refine xc_seq ?_
    refine xc_region ?_
    refine xo_rd (rd_move rfl) rfl ?_
    refine xo_rd (rd_nenil rfl) rfl ?_
    refine xo_rd (rd_move rfl) rfl ?_
    refine xo_grd rfl rfl (rd_move rfl) rfl ?_
    refine xo_grd rfl rfl (rd_nilCheck rfl) rfl ?_
    refine xo_grd rfl rfl (rd_fieldAddr rfl) rfl ?_
    refine xo_grd rfl rfl (rd_load1 rfl (Cl.o0 rfl)) rfl ?_
    refine xo_gef rfl rfl rfl (ef_call rfl (XF.mono (xf_Pending x.fr x.fm (Rm.fr' (L := L) (r := r) hx (by intro z hz; simp [hz]))) ?_))
    rintro v L' ⟨rfl, rfl⟩
    refine xo_rd (rd_pickt rfl rfl) rfl ?_
    refine xo_rd (rd_assign rfl) rfl ?_
    refine xo_nil ?_
    refine xq_seq ?_
    refine xc_ret ?_
  exact xq_ret1 (.inl rfl) Tryz.results45 rfl ⟨rfl, rfl⟩
theorem xf_RSource {W : World} {L : List Blk} (r : Nat) (x : Rm) (hx : x.Ok) (s : Int) : XF Tryz.prog W 46 #[.pointer (some ⟨r, 0, none⟩), .int .u32 s] (x.blks r L) (fun v L' => v = .tuple #[.agg ((getSrc x.ro.ms s).getD ⟨0, 0, 0, false⟩).enc.toArray, .bool ((getSrc x.ro.ms s).any fun m => decide (m.content = s)), .bool (getSrc x.ro.ms s).isSome] ∧ L' = x.blks r L) := by
  refine xf_enter (args := [_, _]) Tryz.func46 rfl Tryz.ntmps46 rfl ?_
  focus
    refine xc_seq ?_
    refine xc_region ?_
    refine xo_ef rfl (ef_alloc fun r4 => ?_)
    refine xo_rd (rd_assign rfl) rfl ?_
    refine xo_rd (rd_assign rfl) rfl ?_
    refine xo_nil ?_
    refine xq_seq ?_
    refine xc_seq ?_
    refine xc_seq ?_
    refine xc_region ?_
    refine xo_rd (rd_move rfl) rfl ?_
    refine xo_rd (rd_eqnil rfl) rfl ?_
    refine xo_nil ?_
    refine xq_seq ?_
    refine xc_condf rfl ?_
    refine xc_skip ?_
    refine xq_seq ?_
    refine xc_seq ?_
    refine xc_region ?_
    refine xo_rd (rd_move rfl) rfl ?_
    refine xo_rd (rd_nilCheck rfl) rfl ?_
    refine xo_rd (rd_fieldAddr rfl) rfl ?_
    refine xo_rd (rd_fieldAddr rfl) rfl ?_
    refine xo_rd (rd_load1 rfl (Cl.o1 rfl)) rfl ?_
    refine xo_rd (rd_move rfl) rfl ?_
    refine xo_ef rfl (ef_call rfl (XF.mono ((xr_src (L := _ :: L) r x hx s).permK (x.front r [_] L)) ?_))
    rintro v L' ⟨rfl, rfl⟩
    refine xo_rd (rd_extract rfl rfl) rfl ?_
    refine xo_rd (rd_extract rfl rfl) rfl ?_
    refine xo_rd (rd_extract rfl rfl) rfl ?_
    refine xo_ef rfl (ef_storeB [] _ rfl rfl (by first | rfl | assumption) rfl rfl rfl ?_)
    refine xo_rd (rd_assign rfl) rfl ?_
    refine xo_rd (rd_assign rfl) rfl ?_
    refine xo_nil ?_
    refine xq_seq ?_
    refine xc_ret ?_
  exact xq_retB3 (.inl rfl) Tryz.results46 rfl rfl rfl Kn.o0 rfl (List.sublist_cons_self _ _) ⟨rfl, rfl⟩
theorem xf_RMember {W : World} {L : List Blk} (r : Nat) (x : Rm) (hx : x.Ok) (id : Int) : XF Tryz.prog W 48 #[.pointer (some ⟨r, 0, none⟩), .int .i64 id] (x.blks r L) (fun v L' => v = .tuple #[.agg ((getId x.ro.ms id).getD ⟨0, 0, 0, false⟩).enc.toArray, .bool (getId x.ro.ms id).isSome] ∧ L' = x.blks r L) := by
  refine xf_enter (args := [_, _]) Tryz.func48 rfl Tryz.ntmps48 rfl ?_
  focus
    refine xc_seq ?_
    refine xc_region ?_
    refine xo_ef rfl (ef_alloc fun r4 => ?_)
    refine xo_rd (rd_assign rfl) rfl ?_
    refine xo_nil ?_
    refine xq_seq ?_
    refine xc_seq ?_
    refine xc_seq ?_
    refine xc_region ?_
    refine xo_rd (rd_move rfl) rfl ?_
    refine xo_rd (rd_eqnil rfl) rfl ?_
    refine xo_nil ?_
    refine xq_seq ?_
    refine xc_condf rfl ?_
    refine xc_skip ?_
    refine xq_seq ?_
    refine xc_seq ?_
    refine xc_region ?_
    refine xo_rd (rd_move rfl) rfl ?_
    refine xo_rd (rd_nilCheck rfl) rfl ?_
    refine xo_rd (rd_fieldAddr rfl) rfl ?_
    refine xo_rd (rd_fieldAddr rfl) rfl ?_
    refine xo_rd (rd_load1 rfl (Cl.o1 rfl)) rfl ?_
    refine xo_rd (rd_move rfl) rfl ?_
    refine xo_ef rfl (ef_call rfl (XF.mono ((xr_get (L := _ :: L) r x hx id).permK (x.front r [_] L)) ?_))
    rintro v L' ⟨rfl, rfl⟩
    refine xo_rd (rd_extract rfl rfl) rfl ?_
    refine xo_rd (rd_extract rfl rfl) rfl ?_
    refine xo_ef rfl (ef_storeB [] _ rfl rfl (by first | rfl | assumption) rfl rfl rfl ?_)
    refine xo_rd (rd_assign rfl) rfl ?_
    refine xo_nil ?_
    refine xq_seq ?_
    refine xc_ret ?_
  exact xq_retB2 (.inl rfl) Tryz.results48 rfl rfl Kn.o0 rfl (List.sublist_cons_self _ _) ⟨rfl, rfl⟩
end Go.Proofs.YtmdeajdaeihniaaGreat.X
/-
  Chapter 25: what is asked of a room's floor; what somebody watches; for whom something holds: walks of my own.
-/
namespace Go.Proofs.YtmdeajdaeihniaaGreat.X
open Go Go.RowKit
set_option linter.unusedVariables false
set_option linter.unusedSimpArgs false
theorem far_in {x : Int} (h : farI x = false) : 0 ≤ x ∧ x ≤ 2147483647 := by
  unfold farI at h
  rw [Bool.or_eq_false_iff] at h
  have := of_decide_eq_false h.1
  have := of_decide_eq_false h.2
  omega
theorem Rm.Ok.fmk {x : Rm} (hx : x.Ok) {y : Fm} (hy : y.Ok) : (Rm.mk x.ro x.fr y x.mb x.mo x.ws).Ok := ⟨hx.ro, hy, hx.mp, hx.wo, hx.ids, hx.rg⟩
theorem Fm.blks_subA (r : Nat) (x : Fm) (A L : List Blk) : (x.blks r L).Sublist (x.blks r (A ++ L)) := ((((List.sublist_append_right A L).append_left x.gl).append_left x.wl).cons_cons _).cons_cons _
theorem Rm.blks_sub (r : Nat) (x : Rm) (A L : List Blk) : (x.blks r L).Sublist (x.blks r (A ++ L)) := ((((Fm.blks_subA x.fr x.fm A L).append_left x.ro.blks).append_left (wlb x.ws)).cons_cons _).cons_cons _
theorem xf_RRequest {W : World} {L : List Blk} (r : Nat) (x : Rm) (hx : x.Ok) (id now : Int) (hg : x.fm.a.gs.length ≤ 1000000) : XF Tryz.prog W 17 #[.pointer (some ⟨r, 0, none⟩), .int .i64 id, .int .u64 now] (x.blks r L) (fun v L' => v = .int .i64 (if farI id = true then 130 else reqE x.fm.a id) ∧ ∃ y : Fm, y.Ok ∧ y.a = (if farI id = true then x.fm.a else reqF x.fm.a id now) ∧ L' = (Rm.mk x.ro x.fr y x.mb x.mo x.ws).blks r L) := by
  refine xf_enter (args := [_, _, _]) Tryz.func17 rfl Tryz.ntmps17 rfl ?_
  cases hfar : farI id with
  | true =>
    focus
      refine xc_seq ?_
      refine xc_region ?_
      refine xo_rd (rd_assign rfl) rfl ?_
      refine xo_nil ?_
      refine xq_seq ?_
      refine xc_seq ?_
      refine xc_seq ?_
      refine xc_region ?_
      refine xo_rd (rd_move rfl) rfl ?_
      refine xo_rd (rd_move rfl) rfl ?_
      refine xo_ef rfl (ef_buildL (T := 50) (len := 1) (s := 1) (cells := (ints .i64 [id]).toArray) rfl (by decide) (by decide) (by kernel_rfl) fun r10 => ?_)
      refine xo_ef rfl (ef_call rfl (XF.mono (xf_may r _ 1 1 [id] rfl rs_cons (by decide) true (by simp [hfar])) ?_))
      rintro v L' ⟨rfl, rfl⟩
      refine xo_rd (rd_assign rfl) rfl ?_
      refine xo_nil ?_
      refine xq_seq ?_
      refine xc_seq ?_
      refine xc_region ?_
      refine xo_rd (rd_move rfl) rfl ?_
      refine xo_rd (rd_neq rfl rfl) rfl ?_
      refine xo_nil ?_
      refine xq_seq ?_
      refine xc_condt rfl ?_
      refine xc_seq ?_
      refine xc_region ?_
      refine xo_rd (rd_move rfl) rfl ?_
      refine xo_rd (rd_assign rfl) rfl ?_
      refine xo_nil ?_
      refine xq_seq ?_
      refine xc_ret ?_
      refine xq_then_ret ?_
    exact xq_sub (List.sublist_cons_self _ _) (xq_ret1 (.inl rfl) Tryz.results17 rfl ⟨rfl, x.fm, hx.fm, rfl, rfl⟩)
  | false =>
    have hin := far_in hfar
    focus
      refine xc_seq ?_
      refine xc_region ?_
      refine xo_rd (rd_assign rfl) rfl ?_
      refine xo_nil ?_
      refine xq_seq ?_
      refine xc_seq ?_
      refine xc_seq ?_
      refine xc_region ?_
      refine xo_rd (rd_move rfl) rfl ?_
      refine xo_rd (rd_move rfl) rfl ?_
      refine xo_ef rfl (ef_buildL (T := 50) (len := 1) (s := 1) (cells := (ints .i64 [id]).toArray) rfl (by decide) (by decide) (by kernel_rfl) fun r10 => ?_)
      refine xo_ef rfl (ef_call rfl (XF.mono (xf_may r _ 1 1 [id] rfl rs_cons (by decide) false (by simp [hfar])) ?_))
      rintro v L' ⟨rfl, rfl⟩
      refine xo_rd (rd_assign rfl) rfl ?_
      refine xo_nil ?_
      refine xq_seq ?_
      refine xc_seq ?_
      refine xc_region ?_
      refine xo_rd (rd_move rfl) rfl ?_
      refine xo_rd (rd_neq rfl rfl) rfl ?_
      refine xo_nil ?_
      refine xq_seq ?_
      refine xc_condf rfl ?_
      refine xc_skip ?_
      refine xq_seq ?_
    refine xc_sub (List.sublist_cons_self _ _) ?_
    focus
      refine xc_seq ?_
      refine xc_region ?_
      refine xo_rd (rd_move rfl) rfl ?_
      refine xo_rd (rd_nilCheck rfl) rfl ?_
      refine xo_rd (rd_fieldAddr rfl) rfl ?_
      refine xo_rd (rd_load1 rfl (Cl.o0 rfl)) rfl ?_
      refine xo_rd (rd_move rfl) rfl ?_
      refine xo_rd (rd_convn rfl (by omega) (by omega)) rfl ?_
      refine xo_rd (rd_move rfl) rfl ?_
      refine xo_ef rfl (ef_call rfl (XF.mono (xr_fl r x (fun L => xf_Request x.fr x.fm hx.fm id now hg)) ?_))
      rintro v L' ⟨rfl, y, hy, hya, rfl⟩
      refine xo_rd (rd_assign rfl) rfl ?_
      refine xo_nil ?_
      refine xq_seq ?_
      refine xc_ret ?_
    exact xq_ret1 (.inl rfl) Tryz.results17 rfl ⟨rfl, y, hy, hya, rfl⟩
theorem xf_RRelease {W : World} {L : List Blk} (r : Nat) (x : Rm) (hx : x.Ok) (id now : Int) (hg : x.fm.a.gs.length ≤ 1000000) : XF Tryz.prog W 39 #[.pointer (some ⟨r, 0, none⟩), .int .i64 id, .int .u64 now] (x.blks r L) (fun v L' => v = .int .i64 (if farI id = true then 130 else relE x.fm.a id) ∧ ∃ y : Fm, y.Ok ∧ y.a = (if farI id = true then x.fm.a else relF x.fm.a id now) ∧ L' = (Rm.mk x.ro x.fr y x.mb x.mo x.ws).blks r L) := by
  refine xf_enter (args := [_, _, _]) Tryz.func39 rfl Tryz.ntmps39 rfl ?_
  cases hfar : farI id with
  | true =>
    focus
      refine xc_seq ?_
      refine xc_region ?_
      refine xo_rd (rd_assign rfl) rfl ?_
      refine xo_nil ?_
      refine xq_seq ?_
      refine xc_seq ?_
      refine xc_seq ?_
      refine xc_region ?_
      refine xo_rd (rd_move rfl) rfl ?_
      refine xo_rd (rd_move rfl) rfl ?_
      refine xo_ef rfl (ef_buildL (T := 50) (len := 1) (s := 1) (cells := (ints .i64 [id]).toArray) rfl (by decide) (by decide) (by kernel_rfl) fun r10 => ?_)
      refine xo_ef rfl (ef_call rfl (XF.mono (xf_may r _ 1 1 [id] rfl rs_cons (by decide) true (by simp [hfar])) ?_))
      rintro v L' ⟨rfl, rfl⟩
      refine xo_rd (rd_assign rfl) rfl ?_
      refine xo_nil ?_
      refine xq_seq ?_
      refine xc_seq ?_
      refine xc_region ?_
      refine xo_rd (rd_move rfl) rfl ?_
      refine xo_rd (rd_neq rfl rfl) rfl ?_
      refine xo_nil ?_
      refine xq_seq ?_
      refine xc_condt rfl ?_
      refine xc_seq ?_
      refine xc_region ?_
      refine xo_rd (rd_move rfl) rfl ?_
      refine xo_rd (rd_assign rfl) rfl ?_
      refine xo_nil ?_
      refine xq_seq ?_
      refine xc_ret ?_
      refine xq_then_ret ?_
    exact xq_sub (List.sublist_cons_self _ _) (xq_ret1 (.inl rfl) Tryz.results39 rfl ⟨rfl, x.fm, hx.fm, rfl, rfl⟩)
  | false =>
    have hin := far_in hfar
    focus
      refine xc_seq ?_
      refine xc_region ?_
      refine xo_rd (rd_assign rfl) rfl ?_
      refine xo_nil ?_
      refine xq_seq ?_
      refine xc_seq ?_
      refine xc_seq ?_
      refine xc_region ?_
      refine xo_rd (rd_move rfl) rfl ?_
      refine xo_rd (rd_move rfl) rfl ?_
      refine xo_ef rfl (ef_buildL (T := 50) (len := 1) (s := 1) (cells := (ints .i64 [id]).toArray) rfl (by decide) (by decide) (by kernel_rfl) fun r10 => ?_)
      refine xo_ef rfl (ef_call rfl (XF.mono (xf_may r _ 1 1 [id] rfl rs_cons (by decide) false (by simp [hfar])) ?_))
      rintro v L' ⟨rfl, rfl⟩
      refine xo_rd (rd_assign rfl) rfl ?_
      refine xo_nil ?_
      refine xq_seq ?_
      refine xc_seq ?_
      refine xc_region ?_
      refine xo_rd (rd_move rfl) rfl ?_
      refine xo_rd (rd_neq rfl rfl) rfl ?_
      refine xo_nil ?_
      refine xq_seq ?_
      refine xc_condf rfl ?_
      refine xc_skip ?_
      refine xq_seq ?_
    refine xc_sub (List.sublist_cons_self _ _) ?_
    focus
      refine xc_seq ?_
      refine xc_region ?_
      refine xo_rd (rd_move rfl) rfl ?_
      refine xo_rd (rd_nilCheck rfl) rfl ?_
      refine xo_rd (rd_fieldAddr rfl) rfl ?_
      refine xo_rd (rd_load1 rfl (Cl.o0 rfl)) rfl ?_
      refine xo_rd (rd_move rfl) rfl ?_
      refine xo_rd (rd_convn rfl (by omega) (by omega)) rfl ?_
      refine xo_rd (rd_move rfl) rfl ?_
      refine xo_ef rfl (ef_call rfl (XF.mono (xr_fl r x (fun L => xf_Release x.fr x.fm hx.fm id now hg)) ?_))
      rintro v L' ⟨rfl, y, hy, hya, rfl⟩
      refine xo_rd (rd_assign rfl) rfl ?_
      refine xo_nil ?_
      refine xq_seq ?_
      refine xc_ret ?_
    exact xq_ret1 (.inl rfl) Tryz.results39 rfl ⟨rfl, y, hy, hya, rfl⟩
theorem xf_RRevoke {W : World} {L : List Blk} (r : Nat) (x : Rm) (hx : x.Ok) (b id now : Int) (hg : x.fm.a.gs.length ≤ 1000000) : XF Tryz.prog W 40 #[.pointer (some ⟨r, 0, none⟩), .int .i64 b, .int .i64 id, .int .u64 now] (x.blks r L) (fun v L' => v = .int .i64 (if (farI b || farI id) = true then 130 else revE x.fm.a b id) ∧ ∃ y : Fm, y.Ok ∧ y.a = (if (farI b || farI id) = true then x.fm.a else revF x.fm.a b id now) ∧ L' = (Rm.mk x.ro x.fr y x.mb x.mo x.ws).blks r L) := by
  refine xf_enter (args := [_, _, _, _]) Tryz.func40 rfl Tryz.ntmps40 rfl ?_
  cases hfar : farI b || farI id with
  | true =>
    focus
      refine xc_seq ?_
      refine xc_region ?_
      refine xo_rd (rd_assign rfl) rfl ?_
      refine xo_nil ?_
      refine xq_seq ?_
      refine xc_seq ?_
      refine xc_seq ?_
      refine xc_region ?_
      refine xo_rd (rd_move rfl) rfl ?_
      refine xo_rd (rd_move rfl) rfl ?_
      refine xo_rd (rd_move rfl) rfl ?_
      refine xo_ef rfl (ef_buildL (T := 50) (len := 2) (s := 1) (cells := (ints .i64 [b, id]).toArray) rfl (by decide) (by decide) (by kernel_rfl) fun r12 => ?_)
      refine xo_ef rfl (ef_call rfl (XF.mono (xf_may r _ 2 2 [b, id] rfl rs_cons (by decide) true (by simpa using hfar)) ?_))
      rintro v L' ⟨rfl, rfl⟩
      refine xo_rd (rd_assign rfl) rfl ?_
      refine xo_nil ?_
      refine xq_seq ?_
      refine xc_seq ?_
      refine xc_region ?_
      refine xo_rd (rd_move rfl) rfl ?_
      refine xo_rd (rd_neq rfl rfl) rfl ?_
      refine xo_nil ?_
      refine xq_seq ?_
      refine xc_condt rfl ?_
      refine xc_seq ?_
      refine xc_region ?_
      refine xo_rd (rd_move rfl) rfl ?_
      refine xo_rd (rd_assign rfl) rfl ?_
      refine xo_nil ?_
      refine xq_seq ?_
      refine xc_ret ?_
      refine xq_then_ret ?_
    exact xq_sub (List.sublist_cons_self _ _) (xq_ret1 (.inl rfl) Tryz.results40 rfl ⟨rfl, x.fm, hx.fm, rfl, rfl⟩)
  | false =>
    have hff := Bool.or_eq_false_iff.1 hfar
    have hin := far_in hff.1
    have hin2 := far_in hff.2
    focus
      refine xc_seq ?_
      refine xc_region ?_
      refine xo_rd (rd_assign rfl) rfl ?_
      refine xo_nil ?_
      refine xq_seq ?_
      refine xc_seq ?_
      refine xc_seq ?_
      refine xc_region ?_
      refine xo_rd (rd_move rfl) rfl ?_
      refine xo_rd (rd_move rfl) rfl ?_
      refine xo_rd (rd_move rfl) rfl ?_
      refine xo_ef rfl (ef_buildL (T := 50) (len := 2) (s := 1) (cells := (ints .i64 [b, id]).toArray) rfl (by decide) (by decide) (by kernel_rfl) fun r12 => ?_)
      refine xo_ef rfl (ef_call rfl (XF.mono (xf_may r _ 2 2 [b, id] rfl rs_cons (by decide) false (by simpa using hfar)) ?_))
      rintro v L' ⟨rfl, rfl⟩
      refine xo_rd (rd_assign rfl) rfl ?_
      refine xo_nil ?_
      refine xq_seq ?_
      refine xc_seq ?_
      refine xc_region ?_
      refine xo_rd (rd_move rfl) rfl ?_
      refine xo_rd (rd_neq rfl rfl) rfl ?_
      refine xo_nil ?_
      refine xq_seq ?_
      refine xc_condf rfl ?_
      refine xc_skip ?_
      refine xq_seq ?_
    refine xc_sub (List.sublist_cons_self _ _) ?_
    focus
      refine xc_seq ?_
      refine xc_region ?_
      refine xo_rd (rd_move rfl) rfl ?_
      refine xo_rd (rd_nilCheck rfl) rfl ?_
      refine xo_rd (rd_fieldAddr rfl) rfl ?_
      refine xo_rd (rd_load1 rfl (Cl.o0 rfl)) rfl ?_
      refine xo_rd (rd_move rfl) rfl ?_
      refine xo_rd (rd_convn rfl (by omega) (by omega)) rfl ?_
      refine xo_rd (rd_move rfl) rfl ?_
      refine xo_rd (rd_convn rfl (by omega) (by omega)) rfl ?_
      refine xo_rd (rd_move rfl) rfl ?_
      refine xo_ef rfl (ef_call rfl (XF.mono (xr_fl r x (fun L => xf_Revoke x.fr x.fm hx.fm b id now hg)) ?_))
      rintro v L' ⟨rfl, y, hy, hya, rfl⟩
      refine xo_rd (rd_assign rfl) rfl ?_
      refine xo_nil ?_
      refine xq_seq ?_
      refine xc_ret ?_
    exact xq_ret1 (.inl rfl) Tryz.results40 rfl ⟨rfl, y, hy, hya, rfl⟩
theorem xf_RHeard {W : World} {L : List Blk} (r : Nat) (x : Rm) (hx : x.Ok) (id now : Int) (k : Bool) : XF Tryz.prog W 41 #[.pointer (some ⟨r, 0, none⟩), .int .i64 id, .int .u64 now, .bool k] (x.blks r L) (fun v L' => v = .bool (!farI id && holdsA x.fm.a id) ∧ ∃ y : Fm, y.Ok ∧ y.a = (if farI id = true then x.fm.a else heardF x.fm.a id now k) ∧ L' = (Rm.mk x.ro x.fr y x.mb x.mo x.ws).blks r L) := by
  refine xf_enter (args := [_, _, _, _]) Tryz.func41 rfl Tryz.ntmps41 rfl ?_
  cases hfar : farI id with
  | true =>
    focus
      refine xc_seq ?_
      refine xc_region ?_
      refine xo_rd (rd_assign rfl) rfl ?_
      refine xo_nil ?_
      refine xq_seq ?_
      refine xc_seq ?_
      refine xc_region ?_
      refine xo_rd (rd_move rfl) rfl ?_
      refine xo_rd (rd_move rfl) rfl ?_
      refine xo_ef rfl (ef_buildL (T := 50) (len := 1) (s := 1) (cells := (ints .i64 [id]).toArray) rfl (by decide) (by decide) (by kernel_rfl) fun r11 => ?_)
      refine xo_ef rfl (ef_call rfl (XF.mono (xf_may r _ 1 1 [id] rfl rs_cons (by decide) true (by simp [hfar])) ?_))
      rintro v L' ⟨rfl, rfl⟩
      refine xo_rd (rd_eql rfl rfl) rfl ?_
      refine xo_rd (rd_move rfl) rfl ?_
      refine xo_gskip rfl rfl rfl rfl ?_
      refine xo_gskip rfl rfl rfl rfl ?_
      refine xo_gskip rfl rfl rfl rfl ?_
      refine xo_gskip rfl rfl rfl rfl ?_
      refine xo_gskip rfl rfl rfl rfl ?_
      refine xo_gskip rfl rfl rfl rfl ?_
      refine xo_gskip rfl rfl rfl rfl ?_
      refine xo_gskip rfl rfl rfl rfl ?_
      refine xo_gskip rfl rfl rfl rfl ?_
      refine xo_rd (rd_pickf rfl rfl) rfl ?_
      refine xo_rd (rd_assign rfl) rfl ?_
      refine xo_nil ?_
      refine xq_seq ?_
      refine xc_ret ?_
    exact xq_sub (List.sublist_cons_self _ _) (xq_ret1 (.inl rfl) Tryz.results41 rfl ⟨rfl, x.fm, hx.fm, rfl, rfl⟩)
  | false =>
    have hin := far_in hfar
    focus
      refine xc_seq ?_
      refine xc_region ?_
      refine xo_rd (rd_assign rfl) rfl ?_
      refine xo_nil ?_
      refine xq_seq ?_
      refine xc_seq ?_
      refine xc_region ?_
      refine xo_rd (rd_move rfl) rfl ?_
      refine xo_rd (rd_move rfl) rfl ?_
      refine xo_ef rfl (ef_buildL (T := 50) (len := 1) (s := 1) (cells := (ints .i64 [id]).toArray) rfl (by decide) (by decide) (by kernel_rfl) fun r11 => ?_)
      refine xo_ef rfl (ef_call rfl (XF.mono (xf_may r _ 1 1 [id] rfl rs_cons (by decide) false (by simp [hfar])) ?_))
      rintro v L' ⟨rfl, rfl⟩
      refine xo_rd (rd_eql rfl rfl) rfl ?_
      refine xo_rd (rd_move rfl) rfl ?_
      refine xo_grd rfl rfl (rd_move rfl) rfl ?_
      refine xo_grd rfl rfl (rd_nilCheck rfl) rfl ?_
      refine xo_grd rfl rfl (rd_fieldAddr rfl) rfl ?_
      refine xo_grd rfl rfl (rd_load1 rfl (Cl.o1 rfl)) rfl ?_
      refine xo_grd rfl rfl (rd_move rfl) rfl ?_
      refine xo_grd rfl rfl (rd_convn rfl (by omega) (by omega)) rfl ?_
      refine xo_grd rfl rfl (rd_move rfl) rfl ?_
      refine xo_grd rfl rfl (rd_move rfl) rfl ?_
      refine xo_gef rfl rfl rfl (ef_call rfl (XF.mono ((xr_fl (L := _ :: L) r x (fun L => xf_Heard x.fr x.fm hx.fm id now k)).perm (x.front r [_] L)) ?_))
      rintro v L' ⟨rfl, y, hy, hya, rfl⟩
      refine xo_rd (rd_pickt rfl rfl) rfl ?_
      refine xo_rd (rd_assign rfl) rfl ?_
      refine xo_nil ?_
      refine xq_seq ?_
      refine xc_ret ?_
    exact xq_sub ((Rm.mk x.ro x.fr y x.mb x.mo x.ws).blks_sub r [_] L) (xq_ret1 (.inl rfl) Tryz.results41 rfl ⟨rfl, y, hy, hya, rfl⟩)
theorem xf_RTick {W : World} {L : List Blk} (r : Nat) (x : Rm) (hx : x.Ok) (now : Int) (hg : x.fm.a.gs.length ≤ 1000000) (h0 : 0 ≤ x.fm.a.heard) (hn : now ≤ 18446744073709551615) : XF Tryz.prog W 42 #[.pointer (some ⟨r, 0, none⟩), .int .u64 now] (x.blks r L) (fun v L' => v = .bool (tickA x.fm.a now) ∧ ∃ y : Fm, y.Ok ∧ y.a = tickF x.fm.a now ∧ L' = (Rm.mk x.ro x.fr y x.mb x.mo x.ws).blks r L) := by
  refine xf_enter (args := [_, _]) Tryz.func42 rfl Tryz.ntmps42 rfl ?_
  focus
    refine xc_seq ?_
    refine xc_region ?_
    refine xo_rd (rd_assign rfl) rfl ?_
    refine xo_nil ?_
    refine xq_seq ?_
    refine xc_seq ?_
    refine xc_region ?_
    refine xo_rd (rd_move rfl) rfl ?_
    refine xo_rd (rd_nenil rfl) rfl ?_
    refine xo_rd (rd_move rfl) rfl ?_
    refine xo_grd rfl rfl (rd_move rfl) rfl ?_
    refine xo_grd rfl rfl (rd_nilCheck rfl) rfl ?_
    refine xo_grd rfl rfl (rd_fieldAddr rfl) rfl ?_
    refine xo_grd rfl rfl (rd_load1 rfl (Cl.o0 rfl)) rfl ?_
    refine xo_grd rfl rfl (rd_move rfl) rfl ?_
    refine xo_gef rfl rfl rfl (ef_call rfl (XF.mono (xr_fl r x (fun L => xf_Tick x.fr x.fm hx.fm now hg h0 hn)) ?_))
    rintro v L' ⟨rfl, y, hy, hya, rfl⟩
    refine xo_rd (rd_pickt rfl rfl) rfl ?_
    refine xo_rd (rd_assign rfl) rfl ?_
    refine xo_nil ?_
    refine xq_seq ?_
    refine xc_ret ?_
  exact xq_ret1 (.inl rfl) Tryz.results42 rfl ⟨rfl, y, hy, hya, rfl⟩
end Go.Proofs.YtmdeajdaeihniaaGreat.X
/-
  Chapter 25: who waits; what somebody watches; for whom something holds: walks of my own.
-/
namespace Go.Proofs.YtmdeajdaeihniaaGreat.X
open Go Go.RowKit
set_option linter.unusedVariables false
set_option linter.unusedSimpArgs false
/-- The state of a row of numbers that grows. -/
structure NrS where
  i : Nat
  p : Option Addr
  c : Nat
  l : List Blk
set_option maxHeartbeats 800000 in
theorem xf_RWaiting {W : World} {L : List Blk} (r : Nat) (x : Rm) (hx : x.Ok) (hu : ∀ w, w ∈ x.fm.a.wt → 0 ≤ w ∧ w ≤ 4294967295) : XF Tryz.prog W 51 #[.pointer (some ⟨r, 0, none⟩)] (x.blks r L) (fun v L' => ∃ p k l, v = .slice p x.fm.a.wt.length k ∧ SlQ 1 3 (.slice p x.fm.a.wt.length k) x.fm.a.wt.length (ints .i64 x.fm.a.wt) l ∧ L' = l ++ x.blks r L) := by
  have hwl : x.fm.a.wt.length ≤ 32 := by have := hx.fm.wb; have := hx.fm.bd; omega
  obtain ⟨wt, hwt⟩ : ∃ wt, x.fm.a.wt = wt := ⟨_, rfl⟩
  have hwait := xf_Waiting (W := W) (L := x.blks r L) x.fr x.fm (Rm.fr' (L := L) (r := r) hx fun _ h => h) (by omega)
  rw [hwt] at hwait hu hwl ⊢
  refine xf_enter (args := [_]) Tryz.func51 rfl Tryz.ntmps51 rfl ?_
  focus
    refine xc_seq ?_
    refine xc_region ?_
    refine xo_rd (rd_assign rfl) rfl ?_
    refine xo_nil ?_
    refine xq_seq ?_
    refine xc_seq ?_
    refine xc_seq ?_
    refine xc_region ?_
    refine xo_rd (rd_move rfl) rfl ?_
    refine xo_rd (rd_eqnil rfl) rfl ?_
    refine xo_nil ?_
    refine xq_seq ?_
    refine xc_condf rfl ?_
    refine xc_skip ?_
    refine xq_seq ?_
    refine xc_seq ?_
    refine xc_seq ?_
    refine xc_region ?_
    refine xo_rd (rd_move rfl) rfl ?_
    refine xo_rd (rd_nilCheck rfl) rfl ?_
    refine xo_rd (rd_fieldAddr rfl) rfl ?_
    refine xo_rd (rd_load1 rfl (Cl.o0 rfl)) rfl ?_
    refine xo_ef rfl (ef_call rfl (XF.mono (hwait) ?_))
    rintro v L' ⟨q, k, l, rfl, hO, rfl⟩
    refine xo_rd (rd_len rfl) rfl ?_
    refine xo_rd (rd_move rfl) rfl ?_
    refine xo_nil ?_
    refine xq_seq ?_
    refine xc_block ?_
  refine xc_loopI (ι := NrS) (fun s => s.i ≤ wt.length ∧ SlQ 1 3 (.slice s.p s.i s.c) s.i (ints .i64 (wt.take s.i)) s.l) (fun s => wt.length - s.i) (fun s => s.l ++ (l ++ x.blks r L)) (fun s => [(2, .slice s.p s.i s.c), (11, .slice q wt.length k), (12, .int .i64 wt.length), (13, .int .i64 s.i)]) ⟨0, none, 0, []⟩ ⟨Nat.zero_le _, SlQ.nil⟩ rfl (by repeat (first | exact keep_nil | refine keep_cons rfl ?_)) ?_
  rintro ⟨i, p2, c2, l2⟩ ⟨hi, hsl⟩
  dsimp only at hi hsl ⊢
  by_cases hin : i < wt.length
  · have hrs : Rs W (l2 ++ (l ++ x.blks r L)) q (ints .u32 wt) := hO.rs fun z hz => List.mem_append_right _ (List.mem_append_left _ hz)
    obtain ⟨b, o, hpb, hc⟩ := hrs.int (i := i) (by omega)
    subst hpb
    have hui := hu wt[i] (List.getElem_mem _)
    have htk : wt.take (i + 1) = wt.take i ++ [wt[i]] := by rw [List.take_add_one, List.getElem?_eq_getElem hin]; rfl
    generalize wt[i] = w at *
    focus
      refine xc_seq ?_
      refine xc_region ?_
      refine xo_rd (rd_lss rfl rfl) rfl ?_
      refine xo_nil ?_
      refine xq_seq ?_
      refine xc_seq ?_
      refine xc_dec rfl (fun hz1 => ?_) (fun hz1 => (by exfalso; omega))
      refine xc_skip ?_
      refine xq_seq ?_
      refine xc_seq ?_
      refine xc_block ?_
      refine xc_seq ?_
      refine xc_region ?_
      refine xo_rd (rd_indexAddr rfl rfl (by omega) (by omega)) rfl ?_
      refine xo_rd (rd_load1 rfl hc) rfl ?_
      refine xo_rd (rd_assign rfl) rfl ?_
      refine xo_nil ?_
      refine xq_seq ?_
      refine xc_region ?_
      refine xo_rd (rd_move rfl) rfl ?_
      refine xo_rd (rd_move rfl) rfl ?_
      refine xo_rd (rd_convn rfl (by omega) (by omega)) rfl ?_
      refine xo_ef rfl (ef_buildL (T := 50) (len := 1) (s := 1) (cells := (ints .i64 [w]).toArray) rfl (by decide) (by decide) (by kernel_rfl) fun r20 => ?_)
      refine xo_ef rfl (ef_appendQS [_] (l ++ x.blks r L) l2 (news := ints .i64 [w]) rfl rfl hsl rfl rs_cons rfl rfl (by decide) (by omega) (by omega) fun p3 c3 l3 hO3 hk3 => ?_)
      refine xo_rd (rd_assign rfl) rfl ?_
      refine xo_nil ?_
      refine xq_block ?_
      refine xq_seq ?_
      refine xc_region ?_
      refine xo_rd (rd_addn rfl rfl (by omega) (by omega)) rfl ?_
      refine xo_rd (rd_move rfl) rfl ?_
      refine xo_nil ?_
    refine xq_sub (List.sublist_cons_self _ _) (xq_roundI (⟨i + 1, p3, c3, l3⟩ : NrS) ⟨by dsimp only; omega, by dsimp only; rw [htk, ints_app]; exact hO3⟩ (by dsimp only; omega) rfl (by repeat (first | exact keep_nil | refine keep_cons rfl ?_)))
  · have hiw : i = wt.length := by omega
    subst hiw
    rw [List.take_length] at hsl
    focus
      refine xc_seq ?_
      refine xc_region ?_
      refine xo_rd (rd_lss rfl rfl) rfl ?_
      refine xo_nil ?_
      refine xq_seq ?_
      refine xc_seq ?_
      refine xc_dec rfl (fun h1 => (by exfalso; omega)) (fun h1 => ?_)
      refine xc_exit ?_
      refine xq_then_exit ?_
      refine xq_then_exit ?_
      refine xq_block_hit ?_
      refine xq_seq ?_
      refine xc_seq ?_
      refine xc_region ?_
      refine xo_rd (rd_move rfl) rfl ?_
      refine xo_rd (rd_assign rfl) rfl ?_
      refine xo_nil ?_
      refine xq_seq ?_
      refine xc_ret ?_
    exact xq_sub ((List.sublist_append_right l _).append_left l2) (xq_ret1 (.inl rfl) Tryz.results51 rfl ⟨p2, c2, l2, rfl, hsl, rfl⟩)
def wEnc (ct : Bool) (p : Option Addr) (n c : Nat) : List Value := [.bool ct, .slice p n c]
set_option maxHeartbeats 800000 in
theorem xf_copied {W : World} {L : List Blk} (ct : Bool) (p : Option Addr) (n c : Nat) (cs : List Int) (hn : cs.length = n) (hr : Rs W L p (ints .i64 cs)) (hm : n ≤ 1000000) : XF Tryz.prog W 57 #[.agg (wEnc ct p n c).toArray] L (fun v L' => ∃ q k l, v = .agg (wEnc ct q n k).toArray ∧ SlO 1 3 (.slice q n k) n (ints .i64 cs) l ∧ L' = l ++ L) := by
  refine xf_enter (args := [_]) Tryz.func57 rfl Tryz.ntmps57 rfl ?_
  focus
    refine xc_seq ?_
    refine xc_region ?_
    refine xo_ef rfl (ef_box rfl fun r1 => ?_)
    refine xo_ef rfl (ef_alloc fun r2 => ?_)
    refine xo_nil ?_
    refine xq_seq ?_
  focus
    refine xc_seq ?_
    refine xc_drawM [0, 1, 0, 4, 8, 18, 63] [0, 1, 0, 4, 8, 18, 63] ((r1, Obj.cells (Value.agg (wEnc ct p n c).toArray).cells 64 (0, 0)) :: L) (by kernel_rfl) (by kernel_rfl) (by kernel_rfl) ?_
    refine xm_take 0 (m' := 1) rfl (by kernel_rfl) (by first | exact Sb.refl | exact Sb.nil | (repeat (first | exact Sb.nil | exact Sb.refl | exact Sb.app0 | apply Sb.keep | apply Sb.keepApp | apply Sb.cons | apply Sb.app))) (rd_fieldAddr rfl) rfl (by kernel_rfl) ?_
    refine xm_take 1 (m' := 3) rfl (by kernel_rfl) (by first | exact Sb.refl | exact Sb.nil | (repeat (first | exact Sb.nil | exact Sb.refl | exact Sb.app0 | apply Sb.keep | apply Sb.keepApp | apply Sb.cons | apply Sb.app))) (rd_load1 rfl (Cl.o0 rfl)) rfl (by kernel_rfl) ?_
    refine xm_take 2 (m' := 7) rfl (by kernel_rfl) (by first | exact Sb.refl | exact Sb.nil | (repeat (first | exact Sb.nil | exact Sb.refl | exact Sb.app0 | apply Sb.keep | apply Sb.keepApp | apply Sb.cons | apply Sb.app))) (rd_fieldAddr rfl) rfl (by kernel_rfl) ?_
    refine xm_take 3 (m' := 15) rfl (by kernel_rfl) (by first | exact Sb.refl | exact Sb.nil | (repeat (first | exact Sb.nil | exact Sb.refl | exact Sb.app0 | apply Sb.keep | apply Sb.keepApp | apply Sb.cons | apply Sb.app))) (rd_load1 rfl (Cl.o0 rfl)) rfl (by kernel_rfl) ?_
    refine xm_one 4 (m' := 31) rfl (by kernel_rfl) rfl (by kernel_rfl) (ef_call rfl (XF.mono (xf_cloneI p n c (ints .i64 cs) (by simp [ints, hn]) (hr.mono (by intro z hz; simp [hz])) (ints_one _ _) (by omega)) ?_))
    rintro v L' ⟨q, k, l, rfl, hO, hk, rfl⟩
    refine xmx_seg [_, _] l _ ?_
    refine ⟨(by first | exact Sb.refl | exact Sb.nil | (repeat (first | exact Sb.nil | exact Sb.refl | exact Sb.app0 | apply Sb.keep | apply Sb.keepApp | apply Sb.cons | apply Sb.app))), ?_⟩
    refine xm_take 5 (m' := 63) rfl (by kernel_rfl) (by first | exact Sb.refl | exact Sb.nil | (repeat (first | exact Sb.nil | exact Sb.refl | exact Sb.app0 | apply Sb.keep | apply Sb.keepApp | apply Sb.cons | apply Sb.app))) (rd_cast (v' := .agg (wEnc ct q n k).toArray) (rd_build (T := 64) rfl rfl rfl) (by kernel_rfl)) rfl (by kernel_rfl) ?_
    refine xm_one 6 (m' := 127) rfl (by kernel_rfl) rfl (by kernel_rfl) (ef_storeB [] _ rfl rfl (by first | rfl | assumption) rfl rfl rfl ?_)
    refine ⟨(by first | exact Sb.refl | exact Sb.nil | (repeat (first | exact Sb.nil | exact Sb.refl | exact Sb.app0 | apply Sb.keep | apply Sb.keepApp | apply Sb.cons | apply Sb.app))), ?_⟩
    refine xm_done (by kernel_rfl) ?_
    refine xq_seq ?_
    refine xc_ret ?_
  all_goals exact xq_retB (.inl rfl) Tryz.results57 rfl Kn.o0 rfl (List.sublist_append_right [_, _] _) ⟨q, k, l, rfl, hO, rfl⟩
def wz : Value := .agg (wEnc false none 0 0).toArray
/-- What is watched, told of an id. -/
def wgA (ws : List Wa) (id : Int) : Wa := (wfA ws id).getD ⟨id, false, []⟩
theorem watF_a (ws : List Wm) (id : Int) : (watF ws id).map Wm.a = wfA (ws.map Wm.a) id := by
  unfold watF wfA
  rw [List.find?_map]
  rfl
theorem watV_some (ws : List Wm) (id : Int) : (watV ws id).isSome = (wfA (ws.map Wm.a) id).isSome := by
  rw [← watF_a]; unfold watV; rw [Option.isSome_map, Option.isSome_map]
/-- What a lookup gives. -/
theorem watV_get {W : World} {L : List Blk} (ws : List Wm) (h : ∀ w, w ∈ ws → w.Ok) (hs : ∀ z, z ∈ wlb ws → z ∈ L) (id : Int) : ∃ p c, (watV ws id).getD wz = .agg (wEnc (wgA (ws.map Wm.a) id).ct p (wgA (ws.map Wm.a) id).cs.length c).toArray ∧ Rs W L p (ints .i64 (wgA (ws.map Wm.a) id).cs) ∧ (wgA (ws.map Wm.a) id).cs.length ≤ 1000000 := by
  unfold wgA
  rw [← watF_a]
  unfold watV
  cases hf : watF ws id with
  | none => exact ⟨none, 0, rfl, Rs.nil, Nat.zero_le _⟩
  | some w =>
    have hm := List.mem_of_find?_eq_some hf
    exact ⟨w.p, w.c, rfl, (h w hm).sl.rs fun z hz => hs z (List.mem_flatMap.2 ⟨w, hm, hz⟩), (h w hm).few⟩
theorem Rm.wsub {r : Nat} {x : Rm} {L : List Blk} : ∀ z, z ∈ wlb x.ws → z ∈ x.blks r L := fun z hz => List.mem_cons_of_mem _ (List.mem_cons_of_mem _ (List.mem_append_left _ hz))
set_option maxHeartbeats 800000 in
theorem xf_RWatch {W : World} {L : List Blk} (r : Nat) (x : Rm) (hx : x.Ok) (id : Int) : XF Tryz.prog W 21 #[.pointer (some ⟨r, 0, none⟩), .int .i64 id] (x.blks r L) (fun v L' => ∃ q k l, v = .tuple #[.agg (wEnc (wgA x.was id).ct q (wgA x.was id).cs.length k).toArray, .bool (wfA x.was id).isSome] ∧ SlO 1 3 (.slice q (wgA x.was id).cs.length k) (wgA x.was id).cs.length (ints .i64 (wgA x.was id).cs) l ∧ L' = l ++ x.blks r L) := by
  obtain ⟨p, c, hv, hrs, hl⟩ := watV_get (W := W) (L := x.blks r L) x.ws hx.wo Rm.wsub id
  have hs := watV_some x.ws id
  change (watV x.ws id).isSome = (wfA x.was id).isSome at hs
  change (watV x.ws id).getD wz = .agg (wEnc (wgA x.was id).ct p (wgA x.was id).cs.length c).toArray at hv
  change Rs W _ p (ints .i64 (wgA x.was id).cs) at hrs
  change (wgA x.was id).cs.length ≤ 1000000 at hl
  generalize wgA x.was id = w at *
  generalize (wfA x.was id).isSome = b at *
  refine xf_enter (args := [_, _]) Tryz.func21 rfl Tryz.ntmps21 rfl ?_
  focus
    refine xc_seq ?_
    refine xc_region ?_
    refine xo_ef rfl (ef_alloc fun r4 => ?_)
    refine xo_rd (rd_assign rfl) rfl ?_
    refine xo_nil ?_
    refine xq_seq ?_
    refine xc_seq ?_
    refine xc_seq ?_
    refine xc_region ?_
    refine xo_rd (rd_move rfl) rfl ?_
    refine xo_rd (rd_eqnil rfl) rfl ?_
    refine xo_nil ?_
    refine xq_seq ?_
    refine xc_condf rfl ?_
    refine xc_skip ?_
    refine xq_seq ?_
    refine xc_seq ?_
    refine xc_region ?_
    refine xo_rd (rd_move rfl) rfl ?_
    refine xo_rd (rd_nilCheck rfl) rfl ?_
    refine xo_rd (rd_fieldAddr rfl) rfl ?_
    refine xo_rd (rd_load1 rfl (Cl.o1 rfl)) rfl ?_
    refine xo_rd (rd_move rfl) rfl ?_
    refine xo_rd (rd_cast (v' := .tuple #[.agg (wEnc w.ct p w.cs.length c).toArray, .bool b]) (rd_lookupOk hx.mp rfl rfl (Rm.kn (r := r) (L := L) (by intro z hz; simp [hz]))) (by rw [← hv, ← hs]; rfl)) rfl ?_
    refine xo_rd (rd_move rfl) rfl ?_
    refine xo_rd (rd_extract rfl rfl) rfl ?_
    refine xo_rd (rd_extract rfl rfl) rfl ?_
    refine xo_ef rfl (ef_alloc fun r6 => ?_)
    refine xo_ef rfl (ef_storeB [] _ rfl rfl (by first | rfl | assumption) rfl rfl rfl ?_)
    refine xo_rd (rd_assign rfl) rfl ?_
    refine xo_nil ?_
    refine xq_seq ?_
  focus
    refine xc_seq ?_
    refine xc_region ?_
    refine xo_rd (rd_loadB rfl Kn.o0 (by rfl)) rfl ?_
    refine xo_ef rfl (ef_call rfl (XF.mono (xf_copied w.ct p w.cs.length c w.cs rfl (hrs.mono (by intro z hz; simp [hz])) hl) ?_))
    rintro v L' ⟨q, k, l, rfl, hO, rfl⟩
    refine xo_seg [_, _] l _ ?_
    refine xo_rd (rd_move rfl) rfl ?_
    refine xo_ef rfl (ef_storeB [_] _ rfl rfl (by first | rfl | assumption) rfl rfl rfl ?_)
    refine xo_rd (rd_assign rfl) rfl ?_
    refine xo_nil ?_
    refine xq_seq ?_
    refine xc_ret ?_
  exact xq_retB2 (.inl rfl) Tryz.results21 rfl rfl Kn.o1 rfl (List.sublist_append_right [_, _] _) ⟨q, k, l, rfl, hO, rfl⟩
theorem xf_view1 {W : World} {L : List Blk} (id : Int) (ct : Bool) (p : Option Addr) (n c : Nat) (cs : List Int) (hn : cs.length = n) (hr : Rs W L p (ints .i64 cs)) (hm : n ≤ 1000000) (q : Nat) (y : Int) (hq : Cl W L q 0 (.int .i64 y)) : XF Tryz.prog W 62 #[.int .i64 id, .agg (wEnc ct p n c).toArray, .pointer (some ⟨q, 0, none⟩)] L (fun v L' => v = .bool (decide (0 ≤ ixOf cs y)) ∧ L' = L) := by
  refine xf_enter (args := [_, _, _]) Tryz.func62 rfl Tryz.ntmps62 rfl ?_
  focus
    refine xc_seq ?_
    refine xc_region ?_
    refine xo_ef rfl (ef_box rfl fun r4 => ?_)
    refine xo_rd (rd_assign rfl) rfl ?_
    refine xo_nil ?_
    refine xq_seq ?_
    refine xc_seq ?_
    refine xc_region ?_
    refine xo_rd (rd_fieldAddr rfl) rfl ?_
    refine xo_rd (rd_load1 rfl (Cl.o0 rfl)) rfl ?_
    refine xo_rd (rd_load1 rfl (hq.mono (by intro z hz; simp [hz]))) rfl ?_
    refine xo_ef rfl (ef_call rfl (XF.mono (xf_containsI p n c cs y hn (hr.mono (by intro z hz; simp [hz])) (by omega)) ?_))
    rintro v L' ⟨rfl, rfl⟩
    refine xo_rd (rd_assign rfl) rfl ?_
    refine xo_nil ?_
    refine xq_seq ?_
    refine xc_ret ?_
  exact xq_sub (List.sublist_append_right [_] _) (xq_ret1 (.inl rfl) Tryz.results62 rfl ⟨rfl, rfl⟩)
theorem xf_aud1 {W : World} {L : List Blk} (id : Int) (ct : Bool) (p : Option Addr) (n c : Nat) (q q2 : Nat) (he : Bool) (who : Int) (hw : 0 ≤ who ∧ who ≤ 4294967295) (hq : Cl W L q 0 (.bool he)) (hq2 : Cl W L q2 1 (.int .u32 who)) : XF Tryz.prog W 61 #[.int .i64 id, .agg (wEnc ct p n c).toArray, .pointer (some ⟨q, 0, none⟩), .pointer (some ⟨q2, 0, none⟩)] L (fun v L' => v = .bool (ct && !(he && decide (who = id))) ∧ L' = L) := by
  refine xf_enter (args := [_, _, _, _]) Tryz.func61 rfl Tryz.ntmps61 rfl ?_
  cases ct with
  | false =>
    focus
      refine xc_seq ?_
      refine xc_region ?_
      refine xo_ef rfl (ef_box rfl fun r5 => ?_)
      refine xo_rd (rd_assign rfl) rfl ?_
      refine xo_nil ?_
      refine xq_seq ?_
      refine xc_seq ?_
      refine xc_region ?_
      refine xo_rd (rd_fieldAddr rfl) rfl ?_
      refine xo_rd (rd_load1 rfl (Cl.o0 rfl)) rfl ?_
      refine xo_rd (rd_move rfl) rfl ?_
      refine xo_gskip rfl rfl rfl rfl ?_
      refine xo_gskip rfl rfl rfl rfl ?_
      refine xo_gskipU rfl rfl rfl ?_
      refine xo_gskipU rfl rfl rfl ?_
      refine xo_gskipU rfl rfl rfl ?_
      refine xo_gskipU rfl rfl rfl ?_
      refine xo_gskipU rfl rfl rfl ?_
      refine xo_gskip rfl rfl rfl rfl ?_
      refine xo_gskip rfl rfl rfl rfl ?_
      refine xo_rd (rd_pickf rfl rfl) rfl ?_
      refine xo_rd (rd_assign rfl) rfl ?_
      refine xo_nil ?_
      refine xq_seq ?_
      refine xc_ret ?_
    exact xq_sub (List.sublist_append_right [_] _) (xq_ret1 (.inl rfl) Tryz.results61 rfl ⟨rfl, rfl⟩)
  | true =>
    cases he with
    | false =>
      focus
        refine xc_seq ?_
        refine xc_region ?_
        refine xo_ef rfl (ef_box rfl fun r5 => ?_)
        refine xo_rd (rd_assign rfl) rfl ?_
        refine xo_nil ?_
        refine xq_seq ?_
        refine xc_seq ?_
        refine xc_region ?_
        refine xo_rd (rd_fieldAddr rfl) rfl ?_
        refine xo_rd (rd_load1 rfl (Cl.o0 rfl)) rfl ?_
        refine xo_rd (rd_move rfl) rfl ?_
        refine xo_grd rfl rfl (rd_load1 rfl (hq.mono (by intro z hz; simp [hz]))) rfl ?_
        refine xo_grd rfl rfl (rd_move rfl) rfl ?_
        refine xo_gskip rfl rfl rfl rfl ?_
        refine xo_gskip rfl rfl rfl rfl ?_
        refine xo_gskip rfl rfl rfl rfl ?_
        refine xo_gskip rfl rfl rfl rfl ?_
        refine xo_gskip rfl rfl rfl rfl ?_
        refine xo_grd rfl rfl (rd_pickf rfl rfl) rfl ?_
        refine xo_grd rfl rfl (rd_not rfl) rfl ?_
        refine xo_rd (rd_pickt rfl rfl) rfl ?_
        refine xo_rd (rd_assign rfl) rfl ?_
        refine xo_nil ?_
        refine xq_seq ?_
        refine xc_ret ?_
      exact xq_sub (List.sublist_append_right [_] _) (xq_ret1 (.inl rfl) Tryz.results61 rfl ⟨rfl, rfl⟩)
    | true =>
      focus
        refine xc_seq ?_
        refine xc_region ?_
        refine xo_ef rfl (ef_box rfl fun r5 => ?_)
        refine xo_rd (rd_assign rfl) rfl ?_
        refine xo_nil ?_
        refine xq_seq ?_
        refine xc_seq ?_
        refine xc_region ?_
        refine xo_rd (rd_fieldAddr rfl) rfl ?_
        refine xo_rd (rd_load1 rfl (Cl.o0 rfl)) rfl ?_
        refine xo_rd (rd_move rfl) rfl ?_
        refine xo_grd rfl rfl (rd_load1 rfl (hq.mono (by intro z hz; simp [hz]))) rfl ?_
        refine xo_grd rfl rfl (rd_move rfl) rfl ?_
        refine xo_grd rfl rfl (rd_fieldAddr rfl) rfl ?_
        refine xo_grd rfl rfl (rd_load1 rfl (hq2.mono (by intro z hz; simp [hz]))) rfl ?_
        refine xo_grd rfl rfl (rd_convn rfl (by omega) (by omega)) rfl ?_
        refine xo_grd rfl rfl (rd_move rfl) rfl ?_
        refine xo_grd rfl rfl (rd_eql rfl rfl) rfl ?_
        refine xo_grd rfl rfl (rd_pickt rfl rfl) rfl ?_
        refine xo_grd rfl rfl (rd_not rfl) rfl ?_
        refine xo_rd (rd_pickt rfl rfl) rfl ?_
        refine xo_rd (rd_assign rfl) rfl ?_
        refine xo_nil ?_
        refine xq_seq ?_
        refine xc_ret ?_
      exact xq_sub (List.sublist_append_right [_] _) (xq_ret1 (.inl rfl) Tryz.results61 rfl ⟨rfl, rfl⟩)
theorem xf_58 {W : World} {L : List Blk} (FN : Nat) [hC : Cf Tryz.prog FN] (cap : List Value) (id : Int) (q3 q2 r mb : Nat) (mo : Obj) (f : Int → Option Value) (sz : Nat) (hm : MpIs .i64 mo f sz) (h3 : Cl W L q3 0 (.func (.func FN) #[] cap.toArray)) (h2 : Cl W L q2 0 (.pointer (some ⟨r, 0, none⟩))) (hr : Cl W L r 2 (.map (some mb))) (hk : Kn W L mb mo) (b : Bool)
    (hf : XF Tryz.prog W FN ([] ++ [Value.int .i64 id, (f id).getD wz] ++ cap).toArray L (fun v L' => v = .bool b ∧ L' = L)) : XF Tryz.prog W 98 #[.int .i64 id, .pointer (some ⟨q3, 0, none⟩), .pointer (some ⟨q2, 0, none⟩)] L (fun v L' => v = .bool (!b) ∧ L' = L) := by
  refine xf_enter (args := [_, _, _]) Tryz.func98 rfl Tryz.ntmps98 rfl ?_
  focus
    refine xc_seq ?_
    refine xc_region ?_
    refine xo_rd (rd_assign rfl) rfl ?_
    refine xo_nil ?_
    refine xq_seq ?_
    refine xc_seq ?_
    refine xc_drawML [0, 0, 0, 4, 8, 16, 0, 96, 131, 256, 1023] [0, 0, 0, 4, 8, 16, 0, 96, 131, 256, 1023] (by kernel_rfl) (by kernel_rfl) (by kernel_rfl) ?_
    refine xm_take 0 (m' := 1) rfl (by kernel_rfl) (by first | exact Sb.refl | exact Sb.nil | (repeat (first | exact Sb.nil | exact Sb.refl | exact Sb.app0 | apply Sb.keep | apply Sb.keepApp | apply Sb.cons | apply Sb.app))) (rd_load1 rfl h3) rfl (by kernel_rfl) ?_
    refine xm_take 1 (m' := 3) rfl (by kernel_rfl) (by first | exact Sb.refl | exact Sb.nil | (repeat (first | exact Sb.nil | exact Sb.refl | exact Sb.app0 | apply Sb.keep | apply Sb.keepApp | apply Sb.cons | apply Sb.app))) (rd_move rfl) rfl (by kernel_rfl) ?_
    refine xm_take 2 (m' := 7) rfl (by kernel_rfl) (by first | exact Sb.refl | exact Sb.nil | (repeat (first | exact Sb.nil | exact Sb.refl | exact Sb.app0 | apply Sb.keep | apply Sb.keepApp | apply Sb.cons | apply Sb.app))) (rd_load1 rfl h2) rfl (by kernel_rfl) ?_
    refine xm_take 3 (m' := 15) rfl (by kernel_rfl) (by first | exact Sb.refl | exact Sb.nil | (repeat (first | exact Sb.nil | exact Sb.refl | exact Sb.app0 | apply Sb.keep | apply Sb.keepApp | apply Sb.cons | apply Sb.app))) (rd_nilCheck rfl) rfl (by kernel_rfl) ?_
    refine xm_take 4 (m' := 31) rfl (by kernel_rfl) (by first | exact Sb.refl | exact Sb.nil | (repeat (first | exact Sb.nil | exact Sb.refl | exact Sb.app0 | apply Sb.keep | apply Sb.keepApp | apply Sb.cons | apply Sb.app))) (rd_fieldAddr rfl) rfl (by kernel_rfl) ?_
    refine xm_take 5 (m' := 63) rfl (by kernel_rfl) (by first | exact Sb.refl | exact Sb.nil | (repeat (first | exact Sb.nil | exact Sb.refl | exact Sb.app0 | apply Sb.keep | apply Sb.keepApp | apply Sb.cons | apply Sb.app))) (rd_load1 rfl hr) rfl (by kernel_rfl) ?_
    refine xm_take 6 (m' := 127) rfl (by kernel_rfl) (by first | exact Sb.refl | exact Sb.nil | (repeat (first | exact Sb.nil | exact Sb.refl | exact Sb.app0 | apply Sb.keep | apply Sb.keepApp | apply Sb.cons | apply Sb.app))) (rd_move rfl) rfl (by kernel_rfl) ?_
    refine xm_take 7 (m' := 255) rfl (by kernel_rfl) (by first | exact Sb.refl | exact Sb.nil | (repeat (first | exact Sb.nil | exact Sb.refl | exact Sb.app0 | apply Sb.keep | apply Sb.keepApp | apply Sb.cons | apply Sb.app))) (rd_lookup hm rfl rfl hk) rfl (by kernel_rfl) ?_
    refine xm_one 8 (m' := 511) rfl (by kernel_rfl) rfl (by kernel_rfl) (ef_callk (r := .bool b) (vs := [.int .i64 id, (f id).getD wz]) (first := []) (cap := cap) rfl rfl hf ?_)
    refine ⟨(by first | exact Sb.refl | exact Sb.nil | (repeat (first | exact Sb.nil | exact Sb.refl | exact Sb.app0 | apply Sb.keep | apply Sb.keepApp | apply Sb.cons | apply Sb.app))), ?_⟩
    refine xm_take 9 (m' := 1023) rfl (by kernel_rfl) (by first | exact Sb.refl | exact Sb.nil | (repeat (first | exact Sb.nil | exact Sb.refl | exact Sb.app0 | apply Sb.keep | apply Sb.keepApp | apply Sb.cons | apply Sb.app))) (rd_not rfl) rfl (by kernel_rfl) ?_
    refine xm_take 10 (m' := 2047) rfl (by kernel_rfl) (by first | exact Sb.refl | exact Sb.nil | (repeat (first | exact Sb.nil | exact Sb.refl | exact Sb.app0 | apply Sb.keep | apply Sb.keepApp | apply Sb.cons | apply Sb.app))) (rd_assign rfl) rfl (by kernel_rfl) ?_
    refine xm_done (by kernel_rfl) ?_
    refine xq_seq ?_
    refine xc_ret ?_
  all_goals exact xq_ret1 (.inl rfl) Tryz.results98 rfl ⟨rfl, rfl⟩
/-- Those for whom something holds, in order. -/
theorem xf_those {W : World} {L : List Blk} (FN : Nat) [hC : Cf Tryz.prog FN] (cap : List Value) (r : Nat) (x : Rm) (hx : x.Ok) (pd : Int → Bool) (hf : ∀ L' id, (∀ z, z ∈ x.blks r L → z ∈ L') → XF Tryz.prog W FN ([] ++ [Value.int .i64 id, (watV x.ws id).getD wz] ++ cap).toArray L' (fun v L'' => v = .bool (pd id) ∧ L'' = L')) :
    XF Tryz.prog W 60 #[.pointer (some ⟨r, 0, none⟩), .func (.func FN) #[] cap.toArray] (x.blks r L) (fun v L' => ∃ p k l, v = .slice p ((x.ro.ms.map Mb.id).filter pd).length k ∧ SlQ 1 3 (.slice p ((x.ro.ms.map Mb.id).filter pd).length k) ((x.ro.ms.map Mb.id).filter pd).length (ints .i64 ((x.ro.ms.map Mb.id).filter pd)) l ∧ L' = l ++ x.blks r L) := by
  have hlen : (x.ro.ms.map Mb.id).length = x.ro.ms.length := List.length_map ..
  have hl := hx.ro.fit.len
  have hl2 := hx.ro.fit.most
  refine xf_enter (args := [_, _]) Tryz.func60 rfl Tryz.ntmps60 rfl ?_
  focus
    refine xc_seq ?_
    refine xc_region ?_
    refine xo_ef rfl (ef_box rfl fun r2 => ?_)
    refine xo_ef rfl (ef_box rfl fun r3 => ?_)
    refine xo_rd (rd_assign rfl) rfl ?_
    refine xo_nil ?_
    refine xq_seq ?_
    refine xc_seq ?_
    refine xc_region ?_
    refine xo_rd (rd_load1 rfl (Cl.o1 rfl)) rfl ?_
    refine xo_ef rfl (ef_call rfl (XF.mono ((xf_RIds (L := [_, _] ++ L) r x hx).perm (x.front r [_, _] L)) ?_))
    rintro v L' ⟨p, k, l, rfl, hO, rfl⟩
    refine xo_rd (rd_makeFunc rfl rfl) rfl ?_
  have hsub : ∀ z, z ∈ x.blks r L → z ∈ x.blks r ([(r3, Obj.cells #[.func (.func FN) #[] cap.toArray] 123 (0, 0)), (r2, Obj.cells #[.pointer (some ⟨r, 0, none⟩)] 28 (0, 0))] ++ L) := fun z hz => (Rm.blks_sub r x [(r3, Obj.cells #[.func (.func FN) #[] cap.toArray] 123 (0, 0)), (r2, Obj.cells #[.pointer (some ⟨r, 0, none⟩)] 28 (0, 0))] L).subset hz
  have hdel := xf_deli58 (W := W) (R := x.blks r ([(r3, Obj.cells #[.func (.func FN) #[] cap.toArray] 123 (0, 0)), (r2, Obj.cells #[.pointer (some ⟨r, 0, none⟩)] 28 (0, 0))] ++ L)) p x.ro.ms.length k (x.ro.ms.map Mb.id) l hO.q hlen (fun id => !pd id) (by omega) r3 r2 (fun l' id _ => xf_58 FN cap id r3 r2 r x.mb x.mo (watV x.ws) x.ws.length hx.mp (Cl.own (List.mem_append_right _ ((Rm.sub r x _).subset (List.mem_cons_self))) rfl) (Cl.own (List.mem_append_right _ ((Rm.sub r x _).subset (List.mem_cons_of_mem _ List.mem_cons_self))) rfl) (Rm.cl (L := _) (fun z hz => List.mem_append_right _ hz) 2 _ rfl) (Rm.kn (r := r) (L := _) (fun z hz => List.mem_append_right _ hz)) (pd id) (hf _ id (fun z hz => List.mem_append_right _ (hsub z hz))))
  have hfl : (x.ro.ms.map Mb.id).filter (fun x => !!pd x) = (x.ro.ms.map Mb.id).filter pd := by simp
  rw [hfl] at hdel
  refine xo_ef rfl (ef_call rfl (hdel.mono ?_))
  rintro v L' ⟨l', rfl, hO', rfl⟩
  focus
    refine xo_rd (rd_assign rfl) rfl ?_
    refine xo_nil ?_
    refine xq_seq ?_
    refine xc_ret ?_
  exact xq_sub ((Rm.blks_sub r x [_, _] L).append_left l') (xq_ret1 (.inl rfl) Tryz.results60 rfl ⟨p, k, l', rfl, hO', rfl⟩)
end Go.Proofs.YtmdeajdaeihniaaGreat.X
/-
  Chapter 25: audience and viewers; a room that is new; who joins: walks of my own.
-/
namespace Go.Proofs.YtmdeajdaeihniaaGreat.X
open Go Go.RowKit
set_option linter.unusedVariables false
set_option linter.unusedSimpArgs false
def audP (ws : List Wa) (he : Bool) (who id : Int) : Bool := (wgA ws id).ct && !(he && decide (who = id))
def viewP (ws : List Wa) (y id : Int) : Bool := decide (0 ≤ ixOf (wgA ws id).cs y)
theorem xf_RAudience {W : World} {L : List Blk} (r : Nat) (x : Rm) (hx : x.Ok) (hw : 0 ≤ x.fm.a.who ∧ x.fm.a.who ≤ 4294967295) : XF Tryz.prog W 18 #[.pointer (some ⟨r, 0, none⟩)] (x.blks r L) (fun v L' => ∃ p k l, v = .slice p ((x.ro.ms.map Mb.id).filter (audP x.was x.fm.a.held x.fm.a.who)).length k ∧ SlQ 1 3 (.slice p ((x.ro.ms.map Mb.id).filter (audP x.was x.fm.a.held x.fm.a.who)).length k) ((x.ro.ms.map Mb.id).filter (audP x.was x.fm.a.held x.fm.a.who)).length (ints .i64 ((x.ro.ms.map Mb.id).filter (audP x.was x.fm.a.held x.fm.a.who))) l ∧ L' = l ++ x.blks r L) := by
  obtain ⟨he, hhe⟩ : ∃ he, x.fm.a.held = he := ⟨_, rfl⟩
  obtain ⟨who, hwho⟩ : ∃ who, x.fm.a.who = who := ⟨_, rfl⟩
  obtain ⟨no, hno⟩ : ∃ no, x.fm.a.no = no := ⟨_, rfl⟩
  obtain ⟨at', hat⟩ : ∃ at', x.fm.a.at' = at' := ⟨_, rfl⟩
  have hh := xf_RHolder (W := W) (L := L) r x hx
  rw [hhe, hwho, hno, hat] at hh
  rw [hhe, hwho]
  rw [hwho] at hw
  refine xf_enter (args := [_]) Tryz.func18 rfl Tryz.ntmps18 rfl ?_
  focus
    refine xc_seq ?_
    refine xc_region ?_
    refine xo_rd (rd_assign rfl) rfl ?_
    refine xo_nil ?_
    refine xq_seq ?_
    refine xc_seq ?_
    refine xc_region ?_
    refine xo_rd (rd_move rfl) rfl ?_
    refine xo_ef rfl (ef_call rfl (XF.mono (hh) ?_))
    rintro v L' ⟨rfl, rfl⟩
    refine xo_rd (rd_move rfl) rfl ?_
    refine xo_rd (rd_extract rfl rfl) rfl ?_
    refine xo_rd (rd_extract rfl rfl) rfl ?_
    refine xo_ef rfl (ef_alloc fun r3 => ?_)
    refine xo_ef rfl (ef_alloc fun r4 => ?_)
    refine xo_ef rfl (ef_storeB [_] _ rfl rfl (by first | rfl | assumption) rfl rfl rfl ?_)
    refine xo_ef rfl (ef_store1 [] _ rfl rfl (by first | rfl | assumption) rfl rfl rfl ?_)
    refine xo_nil ?_
    refine xq_seq ?_
  have hth := (xf_those (W := W) (L := [(r4, Obj.cells #[.bool he] 4 (0, 0)), (r3, Obj.cells (gEnc (no, who, at')).toArray 101 (0, 0))] ++ L) 61 [.pointer (some ⟨r4, 0, none⟩), .pointer (some ⟨r3, 0, none⟩)] r x hx (audP x.was he who) (fun L' id h => by
    obtain ⟨p, c, hv, hrs, hl⟩ := watV_get (W := W) (L := L') x.ws hx.wo (fun z hz => h z (Rm.wsub z hz)) id
    rw [hv]
    exact xf_aud1 id _ p _ c r4 r3 he who hw (Cl.own (h _ ((Rm.sub r x _).subset List.mem_cons_self)) rfl) (Cl.own (h _ ((Rm.sub r x _).subset (List.mem_cons_of_mem _ List.mem_cons_self))) rfl))).perm (x.front r [_, _] L)
  refine xc_sub (L' := [(r4, Obj.cells #[.bool he] 4 (0, 0)), (r3, Obj.cells (gEnc (no, who, at')).toArray 101 (0, 0))] ++ x.blks r L) (List.Sublist.refl _) ?_
  focus
    refine xc_seq ?_
    refine xc_region ?_
    refine xo_rd (rd_move rfl) rfl ?_
    refine xo_rd (rd_makeFunc rfl rfl) rfl ?_
    refine xo_ef rfl (ef_call rfl (XF.mono (hth) ?_))
    rintro v L' ⟨p, k, l, rfl, hO, rfl⟩
    refine xo_rd (rd_assign rfl) rfl ?_
    refine xo_nil ?_
    refine xq_seq ?_
    refine xc_ret ?_
  exact xq_sub ((Rm.blks_sub r x [_, _] L).append_left l) (xq_ret1 (.inl rfl) Tryz.results18 rfl ⟨p, k, l, rfl, hO, rfl⟩)
theorem xf_RViewers {W : World} {L : List Blk} (r : Nat) (x : Rm) (hx : x.Ok) (y : Int) : XF Tryz.prog W 19 #[.pointer (some ⟨r, 0, none⟩), .int .i64 y] (x.blks r L) (fun v L' => ∃ p k l, v = .slice p ((x.ro.ms.map Mb.id).filter (viewP x.was y)).length k ∧ SlQ 1 3 (.slice p ((x.ro.ms.map Mb.id).filter (viewP x.was y)).length k) ((x.ro.ms.map Mb.id).filter (viewP x.was y)).length (ints .i64 ((x.ro.ms.map Mb.id).filter (viewP x.was y))) l ∧ L' = l ++ x.blks r L) := by
  refine xf_enter (args := [_, _]) Tryz.func19 rfl Tryz.ntmps19 rfl ?_
  focus
    refine xc_seq ?_
    refine xc_region ?_
    refine xo_ef rfl (ef_box rfl fun r3 => ?_)
    refine xo_rd (rd_assign rfl) rfl ?_
    refine xo_nil ?_
    refine xq_seq ?_
  have hth := (xf_those (W := W) (L := [(r3, Obj.cells (Value.int .i64 y).cells 3 (0, 0))] ++ L) 62 [.pointer (some ⟨r3, 0, none⟩)] r x hx (viewP x.was y) (fun L' id h => by
    obtain ⟨p, c, hv, hrs, hl⟩ := watV_get (W := W) (L := L') x.ws hx.wo (fun z hz => h z (Rm.wsub z hz)) id
    rw [hv]
    exact xf_view1 id _ p _ c _ rfl hrs hl r3 y (Cl.own (h _ ((Rm.sub r x _).subset List.mem_cons_self)) rfl))).perm (x.front r [_] L)
  focus
    refine xc_seq ?_
    refine xc_region ?_
    refine xo_rd (rd_move rfl) rfl ?_
    refine xo_rd (rd_makeFunc rfl rfl) rfl ?_
    refine xo_ef rfl (ef_call rfl (XF.mono (hth) ?_))
    rintro v L' ⟨p, k, l, rfl, hO, rfl⟩
    refine xo_rd (rd_assign rfl) rfl ?_
    refine xo_nil ?_
    refine xq_seq ?_
    refine xc_ret ?_
  exact xq_sub ((Rm.blks_sub r x [_] L).append_left l) (xq_ret1 (.inl rfl) Tryz.results19 rfl ⟨p, k, l, rfl, hO, rfl⟩)
/-- A room, by itself. -/
structure Ra where
  most : Int
  ms : List Mb
  fl : Fa
  ws : List Wa
def Rm.ra (x : Rm) : Ra := ⟨x.ro.most, x.ro.ms, x.fm.a, x.was⟩
def cfgE (m q s : Int) : List Value := [.int .i64 m, .int .i64 q, .int .u64 s]
theorem xf_RNew {W : World} {L : List Blk} (m q s : Int) (hm : 0 ≤ m ∧ m ≤ 32) (hq : 0 ≤ q ∧ q ≤ 32) (hs : 1 ≤ s) : XF Tryz.prog W 7 #[.agg (cfgE m q s).toArray] L (fun v L' => ∃ r, v = .tuple #[.pointer (some ⟨r, 0, none⟩), .int .i64 0] ∧ ∃ y : Rm, y.Ok ∧ y.ra = ⟨m, [], newFa q s, []⟩ ∧ L' = y.blks r L) := by
  refine xf_enter (args := [_]) Tryz.func7 rfl Tryz.ntmps7 rfl ?_
  focus
    refine xc_seq ?_
    refine xc_region ?_
    refine xo_ef rfl (ef_box rfl fun r1 => ?_)
    refine xo_rd (rd_assign rfl) rfl ?_
    refine xo_rd (rd_assign rfl) rfl ?_
    refine xo_nil ?_
    refine xq_seq ?_
    refine xc_seq ?_
    refine xc_region ?_
    refine xo_rd (rd_fieldAddr rfl) rfl ?_
    refine xo_rd (rd_load1 rfl (Cl.o0 rfl)) rfl ?_
    refine xo_ef rfl (ef_call rfl (XF.mono (xf_new m hm) ?_))
    rintro v L' ⟨ro, hro, rfl, hmo, hms, rfl⟩
    refine xo_rd (rd_move rfl) rfl ?_
    refine xo_rd (rd_extract rfl rfl) rfl ?_
    refine xo_rd (rd_extract rfl rfl) rfl ?_
    refine xo_rd (rd_assign rfl) rfl ?_
    refine xo_rd (rd_assign rfl) rfl ?_
    refine xo_nil ?_
    refine xq_seq ?_
    refine xc_seq ?_
    refine xc_region ?_
    refine xo_rd (rd_fieldAddr rfl) rfl ?_
    refine xo_rd (rd_load1 rfl (Cl.own (List.mem_append_right _ List.mem_cons_self) rfl)) rfl ?_
    refine xo_rd (rd_fieldAddr rfl) rfl ?_
    refine xo_rd (rd_load1 rfl (Cl.own (List.mem_append_right _ List.mem_cons_self) rfl)) rfl ?_
    refine xo_ef rfl (ef_call rfl (XF.mono (xf_New q s hq hs) ?_))
    rintro v L' ⟨fr, rfl, fm, hfm, hfa, rfl⟩
    refine xo_rd (rd_move rfl) rfl ?_
    refine xo_rd (rd_extract rfl rfl) rfl ?_
    refine xo_rd (rd_extract rfl rfl) rfl ?_
    refine xo_rd (rd_assign rfl) rfl ?_
    refine xo_rd (rd_assign rfl) rfl ?_
    refine xo_nil ?_
    refine xq_seq ?_
    refine xc_seq ?_
    refine xc_seq ?_
    refine xc_region ?_
    refine xo_rd (rd_move rfl) rfl ?_
    refine xo_rd (rd_neq rfl rfl) rfl ?_
    refine xo_rd (rd_move rfl) rfl ?_
    refine xo_grd rfl rfl (rd_move rfl) rfl ?_
    refine xo_grd rfl rfl (rd_neq rfl rfl) rfl ?_
    refine xo_rd (rd_pickf rfl rfl) rfl ?_
    refine xo_nil ?_
    refine xq_seq ?_
    refine xc_condf rfl ?_
    refine xc_skip ?_
    refine xq_seq ?_
    refine xc_seq ?_
    refine xc_region ?_
    refine xo_rd (rd_move rfl) rfl ?_
    refine xo_rd (rd_build rfl rfl rfl) rfl ?_
    refine xo_rd (rd_move rfl) rfl ?_
    refine xo_ef rfl (ef_makeMap fun r31 => ?_)
    refine xo_rd (rd_cast (v' := .agg (rcl ro.c fr r31).toArray) (rd_build (T := 81) rfl rfl rfl) (by kernel_rfl)) rfl ?_
    refine xo_ef rfl (ef_box rfl fun r33 => ?_)
    refine xo_rd (rd_assign rfl) rfl ?_
    refine xo_rd (rd_assign rfl) rfl ?_
    refine xo_nil ?_
    refine xq_seq ?_
    refine xc_ret ?_
  have hy : (Rm.mk ro fr fm r31 (.map #[] 0) []).Ok := ⟨hro, hfm, MpIs.empty, (fun w h => by cases h), by dsimp only; rw [hms]; rfl, (fun w h => by dsimp only at h; rw [hms] at h; cases h)⟩
  have hya : (Rm.mk ro fr fm r31 (.map #[] 0) []).ra = ⟨m, [], newFa q s, []⟩ := by unfold Rm.ra; dsimp only; rw [hmo, hms, hfa]; rfl
  refine xq_perm (((Fm.blks_perm fr fm ro.blks _).symm.cons _).cons _) ?_
  exact xq_sub ((((Fm.blks_subA fr fm [_] L).append_left ro.blks).cons_cons _).cons_cons _) (xq_ret2 (.inl rfl) Tryz.results7 rfl rfl ⟨r33, rfl, Rm.mk ro fr fm r31 (.map #[] 0) [], hy, hya, rfl⟩)
theorem xf_RNewE {W : World} {L : List Blk} (m q s : Int) (h : ¬ ((0 ≤ m ∧ m ≤ 32) ∧ (0 ≤ q ∧ q ≤ 32) ∧ 1 ≤ s)) : XF Tryz.prog W 7 #[.agg (cfgE m q s).toArray] L (fun v L' => v = .tuple #[.pointer none, .int .i64 2] ∧ L' = L) := by
  refine xf_enter (args := [_]) Tryz.func7 rfl Tryz.ntmps7 rfl ?_
  by_cases hm : 0 ≤ m ∧ m ≤ 32
  · have h2 : q < 0 ∨ 32 < q ∨ s < 1 := by omega
    focus
      refine xc_seq ?_
      refine xc_region ?_
      refine xo_ef rfl (ef_box rfl fun r1 => ?_)
      refine xo_rd (rd_assign rfl) rfl ?_
      refine xo_rd (rd_assign rfl) rfl ?_
      refine xo_nil ?_
      refine xq_seq ?_
      refine xc_seq ?_
      refine xc_region ?_
      refine xo_rd (rd_fieldAddr rfl) rfl ?_
      refine xo_rd (rd_load1 rfl (Cl.o0 rfl)) rfl ?_
      refine xo_ef rfl (ef_call rfl (XF.mono (xf_new m hm) ?_))
      rintro v L' ⟨ro, hro, rfl, hmo, hms, rfl⟩
      refine xo_rd (rd_move rfl) rfl ?_
      refine xo_rd (rd_extract rfl rfl) rfl ?_
      refine xo_rd (rd_extract rfl rfl) rfl ?_
      refine xo_rd (rd_assign rfl) rfl ?_
      refine xo_rd (rd_assign rfl) rfl ?_
      refine xo_nil ?_
      refine xq_seq ?_
      refine xc_seq ?_
      refine xc_region ?_
      refine xo_rd (rd_fieldAddr rfl) rfl ?_
      refine xo_rd (rd_load1 rfl (Cl.own (List.mem_append_right _ List.mem_cons_self) rfl)) rfl ?_
      refine xo_rd (rd_fieldAddr rfl) rfl ?_
      refine xo_rd (rd_load1 rfl (Cl.own (List.mem_append_right _ List.mem_cons_self) rfl)) rfl ?_
      refine xo_ef rfl (ef_call rfl (XF.mono (xf_NewE q s h2) ?_))
      rintro v L' ⟨rfl, rfl⟩
      refine xo_rd (rd_move rfl) rfl ?_
      refine xo_rd (rd_extract rfl rfl) rfl ?_
      refine xo_rd (rd_extract rfl rfl) rfl ?_
      refine xo_rd (rd_assign rfl) rfl ?_
      refine xo_rd (rd_assign rfl) rfl ?_
      refine xo_nil ?_
      refine xq_seq ?_
      refine xc_seq ?_
      refine xc_seq ?_
      refine xc_region ?_
      refine xo_rd (rd_move rfl) rfl ?_
      refine xo_rd (rd_neq rfl rfl) rfl ?_
      refine xo_rd (rd_move rfl) rfl ?_
      refine xo_grd rfl rfl (rd_move rfl) rfl ?_
      refine xo_grd rfl rfl (rd_neq rfl rfl) rfl ?_
      refine xo_rd (rd_pickf rfl rfl) rfl ?_
      refine xo_nil ?_
      refine xq_seq ?_
      refine xc_condt rfl ?_
      refine xc_seq ?_
      refine xc_region ?_
      refine xo_rd (rd_assign rfl) rfl ?_
      refine xo_rd (rd_assign rfl) rfl ?_
      refine xo_nil ?_
      refine xq_seq ?_
      refine xc_ret ?_
      refine xq_then_ret ?_
    exact xq_sub ((List.sublist_cons_self _ _).trans (List.sublist_append_right _ _)) (xq_ret2 (.inl rfl) Tryz.results7 rfl rfl ⟨rfl, rfl⟩)
  · have hm2 : m < 0 ∨ 32 < m := by omega
    by_cases h2 : (0 ≤ q ∧ q ≤ 32) ∧ 1 ≤ s
    · skip
      focus
        refine xc_seq ?_
        refine xc_region ?_
        refine xo_ef rfl (ef_box rfl fun r1 => ?_)
        refine xo_rd (rd_assign rfl) rfl ?_
        refine xo_rd (rd_assign rfl) rfl ?_
        refine xo_nil ?_
        refine xq_seq ?_
        refine xc_seq ?_
        refine xc_region ?_
        refine xo_rd (rd_fieldAddr rfl) rfl ?_
        refine xo_rd (rd_load1 rfl (Cl.o0 rfl)) rfl ?_
        refine xo_ef rfl (ef_call rfl (XF.mono (xf_new_bad m hm2) ?_))
        rintro v L' ⟨rfl, rfl⟩
        refine xo_rd (rd_move rfl) rfl ?_
        refine xo_rd (rd_extract rfl rfl) rfl ?_
        refine xo_rd (rd_extract rfl rfl) rfl ?_
        refine xo_rd (rd_assign rfl) rfl ?_
        refine xo_rd (rd_assign rfl) rfl ?_
        refine xo_nil ?_
        refine xq_seq ?_
        refine xc_seq ?_
        refine xc_region ?_
        refine xo_rd (rd_fieldAddr rfl) rfl ?_
        refine xo_rd (rd_load1 rfl (Cl.o0 rfl)) rfl ?_
        refine xo_rd (rd_fieldAddr rfl) rfl ?_
        refine xo_rd (rd_load1 rfl (Cl.o0 rfl)) rfl ?_
        refine xo_ef rfl (ef_call rfl (XF.mono (xf_New q s h2.1 h2.2) ?_))
        rintro v L' ⟨fr, rfl, fm, hfm, hfa, rfl⟩
        refine xo_rd (rd_move rfl) rfl ?_
        refine xo_rd (rd_extract rfl rfl) rfl ?_
        refine xo_rd (rd_extract rfl rfl) rfl ?_
        refine xo_rd (rd_assign rfl) rfl ?_
        refine xo_rd (rd_assign rfl) rfl ?_
        refine xo_nil ?_
        refine xq_seq ?_
        refine xc_seq ?_
        refine xc_seq ?_
        refine xc_region ?_
        refine xo_rd (rd_move rfl) rfl ?_
        refine xo_rd (rd_neq rfl rfl) rfl ?_
        refine xo_rd (rd_move rfl) rfl ?_
        refine xo_gskip rfl rfl rfl rfl ?_
        refine xo_gskip rfl rfl rfl rfl ?_
        refine xo_rd (rd_pickt rfl rfl) rfl ?_
        refine xo_nil ?_
        refine xq_seq ?_
        refine xc_condt rfl ?_
        refine xc_seq ?_
        refine xc_region ?_
        refine xo_rd (rd_assign rfl) rfl ?_
        refine xo_rd (rd_assign rfl) rfl ?_
        refine xo_nil ?_
        refine xq_seq ?_
        refine xc_ret ?_
        refine xq_then_ret ?_
      exact xq_sub ((List.sublist_cons_self _ _).trans (Fm.blks_sub fr fm _)) (xq_ret2 (.inl rfl) Tryz.results7 rfl rfl ⟨rfl, rfl⟩)
    · have h3 : q < 0 ∨ 32 < q ∨ s < 1 := by omega
      focus
        refine xc_seq ?_
        refine xc_region ?_
        refine xo_ef rfl (ef_box rfl fun r1 => ?_)
        refine xo_rd (rd_assign rfl) rfl ?_
        refine xo_rd (rd_assign rfl) rfl ?_
        refine xo_nil ?_
        refine xq_seq ?_
        refine xc_seq ?_
        refine xc_region ?_
        refine xo_rd (rd_fieldAddr rfl) rfl ?_
        refine xo_rd (rd_load1 rfl (Cl.o0 rfl)) rfl ?_
        refine xo_ef rfl (ef_call rfl (XF.mono (xf_new_bad m hm2) ?_))
        rintro v L' ⟨rfl, rfl⟩
        refine xo_rd (rd_move rfl) rfl ?_
        refine xo_rd (rd_extract rfl rfl) rfl ?_
        refine xo_rd (rd_extract rfl rfl) rfl ?_
        refine xo_rd (rd_assign rfl) rfl ?_
        refine xo_rd (rd_assign rfl) rfl ?_
        refine xo_nil ?_
        refine xq_seq ?_
        refine xc_seq ?_
        refine xc_region ?_
        refine xo_rd (rd_fieldAddr rfl) rfl ?_
        refine xo_rd (rd_load1 rfl (Cl.o0 rfl)) rfl ?_
        refine xo_rd (rd_fieldAddr rfl) rfl ?_
        refine xo_rd (rd_load1 rfl (Cl.o0 rfl)) rfl ?_
        refine xo_ef rfl (ef_call rfl (XF.mono (xf_NewE q s h3) ?_))
        rintro v L' ⟨rfl, rfl⟩
        refine xo_rd (rd_move rfl) rfl ?_
        refine xo_rd (rd_extract rfl rfl) rfl ?_
        refine xo_rd (rd_extract rfl rfl) rfl ?_
        refine xo_rd (rd_assign rfl) rfl ?_
        refine xo_rd (rd_assign rfl) rfl ?_
        refine xo_nil ?_
        refine xq_seq ?_
        refine xc_seq ?_
        refine xc_seq ?_
        refine xc_region ?_
        refine xo_rd (rd_move rfl) rfl ?_
        refine xo_rd (rd_neq rfl rfl) rfl ?_
        refine xo_rd (rd_move rfl) rfl ?_
        refine xo_gskip rfl rfl rfl rfl ?_
        refine xo_gskip rfl rfl rfl rfl ?_
        refine xo_rd (rd_pickt rfl rfl) rfl ?_
        refine xo_nil ?_
        refine xq_seq ?_
        refine xc_condt rfl ?_
        refine xc_seq ?_
        refine xc_region ?_
        refine xo_rd (rd_assign rfl) rfl ?_
        refine xo_rd (rd_assign rfl) rfl ?_
        refine xo_nil ?_
        refine xq_seq ?_
        refine xc_ret ?_
        refine xq_then_ret ?_
      exact xq_sub (List.sublist_cons_self _ _) (xq_ret2 (.inl rfl) Tryz.results7 rfl rfl ⟨rfl, rfl⟩)
end Go.Proofs.YtmdeajdaeihniaaGreat.X
/-
  Chapter 25: who joins: a walk of my own.
-/
namespace Go.Proofs.YtmdeajdaeihniaaGreat.X
open Go Go.RowKit
set_option linter.unusedVariables false
set_option linter.unusedSimpArgs false
def jnE (a : Ra) (m : Mb) : Int := if 2147483647 < m.id then 2 else joinR a.most a.ms m
def jnA (a : Ra) (m : Mb) : Ra := if jnE a m = 0 then ⟨a.most, a.ms ++ [m], joinF a.fl m.id m.mod, a.ws ++ [⟨m.id, false, []⟩]⟩ else a
theorem joinR_ok {most : Int} {l : List Mb} {m : Mb} (h : joinR most l m = 0) : m.right ∧ getId l m.id = none := by
  unfold joinR at h
  split at h
  · cases h
  · rename_i hr
    split at h
    · cases h
    · rename_i hg
      exact ⟨Decidable.not_not.1 hr, by simpa using hg⟩
def newW (id : Int) : Wm := ⟨⟨id, false, []⟩, none, 0, []⟩
theorem watF_none {ws : List Wm} {id : Int} (h : id ∉ ws.map fun w => w.a.id) : watF ws id = none := by
  unfold watF
  rw [List.find?_eq_none]
  intro w hw he
  exact h (List.mem_map.2 ⟨w, hw, by simpa using he⟩)
theorem watV_snoc {ws : List Wm} {w : Wm} (h : w.a.id ∉ ws.map fun w => w.a.id) (z : Int) : watV (ws ++ [w]) z = mupd (watV ws) w.a.id (some w.v) z := by
  unfold mupd watV
  by_cases hz : z = w.a.id
  · subst hz
    rw [if_pos rfl]
    have := watF_none h
    unfold watF at this ⊢
    rw [List.find?_append, this]
    simp
  · rw [if_neg hz]
    congr 1
    unfold watF
    rw [List.find?_append]
    have : (w.a.id == z) = false := by simp; exact fun e => hz e.symm
    rw [List.find?_cons, this]
    simp
theorem wlb_snoc (ws : List Wm) (w : Wm) : wlb (ws ++ [w]) = wlb ws ++ w.l := by unfold wlb; rw [List.flatMap_append, List.flatMap_singleton]
theorem perm_ro3 {a b c : Blk} (w m F : List Blk) : (a :: b :: c :: (w ++ (m ++ F))).Perm (m ++ (a :: b :: c :: (w ++ F))) := (by classical exact List.perm_iff_count.2 fun a => by simp only [List.append_eq, List.count_append, List.count_cons, List.count_nil, List.cons_append, List.nil_append, List.flatMap_append, List.flatMap_cons, List.flatMap_nil, List.append_nil]; omega)
/-- A call of the roster's, with three blocks ahead of what is watched. -/
theorem xj_ro {W : World} {a b c : Blk} {w F : List Blk} (x : Ro) {f : FuncId} {args : Array Value} {u : Value} {most : Int} {ms : List Mb} (h : ∀ R, XF Tryz.prog W f args (x.blks ++ R) (fun v L' => v = u ∧ ∃ y : Ro, y.Ok ∧ y.c = x.c ∧ y.most = most ∧ y.ms = ms ∧ L' = y.blks ++ R)) :
    XF Tryz.prog W f args (a :: b :: c :: (w ++ (x.blks ++ F))) (fun v L' => v = u ∧ ∃ y : Ro, (y.Ok ∧ y.c = x.c ∧ y.most = most ∧ y.ms = ms) ∧ L' = a :: b :: c :: (w ++ (y.blks ++ F))) :=
  ((h _).perm (perm_ro3 w x.blks F)).mapK fun v L' ⟨hv, y, h1, h2, h3, h4, hL⟩ => ⟨_, hL ▸ (perm_ro3 w y.blks F).symm, hv, y, ⟨h1, h2, h3, h4⟩, rfl⟩
theorem perm_fm3 {a b c : Blk} (w m : List Blk) (fr : Nat) (x : Fm) (F : List Blk) : (a :: b :: c :: (w ++ (m ++ x.blks fr F))).Perm (x.blks fr ((a :: b :: c :: (w ++ m)) ++ F)) := by
  refine List.Perm.trans ?_ (Fm.blks_perm fr x _ F)
  rw [List.cons_append, List.cons_append, List.cons_append, List.append_assoc]
theorem xj_fm {W : World} {a b c : Blk} {w m F : List Blk} (fr : Nat) (x : Fm) {f : FuncId} {args : Array Value} {u : Value} {g : Fa} (h : ∀ R, XF Tryz.prog W f args (x.blks fr R) (fun v L' => v = u ∧ ∃ y : Fm, y.Ok ∧ y.a = g ∧ L' = y.blks fr R)) :
    XF Tryz.prog W f args (a :: b :: c :: (w ++ (m ++ x.blks fr F))) (fun v L' => v = u ∧ ∃ y : Fm, (y.Ok ∧ y.a = g) ∧ L' = a :: b :: c :: (w ++ (m ++ y.blks fr F))) :=
  ((h _).perm (perm_fm3 w m fr x F)).mapK fun v L' ⟨hv, y, h1, h2, hL⟩ => ⟨_, hL ▸ (perm_fm3 w m fr y F).symm, hv, y, ⟨h1, h2⟩, rfl⟩
set_option maxHeartbeats 800000 in
theorem xf_RJoin {W : World} {L : List Blk} (r : Nat) (x : Rm) (hx : x.Ok) (m : Mb) : XF Tryz.prog W 38 #[.pointer (some ⟨r, 0, none⟩), .agg m.enc.toArray] (x.blks r L) (fun v L' => v = .int .i64 (jnE x.ra m) ∧ ∃ y : Rm, y.Ok ∧ y.ra = jnA x.ra m ∧ L' = y.blks r L) := by
  have hE : jnE x.ra m = if 2147483647 < m.id then 2 else joinR x.ro.most x.ro.ms m := rfl
  refine xf_enter (args := [_, _]) Tryz.func38 rfl Tryz.ntmps38 rfl ?_
  by_cases hbig : 2147483647 < m.id
  · rw [if_pos hbig] at hE
    focus
      refine xc_seq ?_
      refine xc_region ?_
      refine xo_ef rfl (ef_box rfl fun r3 => ?_)
      refine xo_rd (rd_assign rfl) rfl ?_
      refine xo_nil ?_
      refine xq_seq ?_
      refine xc_seq ?_
      refine xc_block ?_
      refine xc_seq ?_
      refine xc_region ?_
      refine xo_rd (rd_move rfl) rfl ?_
      refine xo_rd (rd_eqnil rfl) rfl ?_
      refine xo_rd (rd_assign rfl) rfl ?_
      refine xo_nil ?_
      refine xq_seq ?_
      refine xc_condf rfl ?_
      refine xc_seq ?_
      refine xc_region ?_
      refine xo_rd (rd_fieldAddr rfl) rfl ?_
      refine xo_rd (rd_load1 rfl (Cl.o0 rfl)) rfl ?_
      refine xo_rd (rd_gtr rfl rfl) rfl ?_
      refine xo_rd (rd_assign rfl) rfl ?_
      refine xo_nil ?_
      refine xq_seq ?_
      refine xc_dec rfl (fun h1 => ?_) (fun h1 => (by exfalso; omega))
      refine xc_seq ?_
      refine xc_region ?_
      refine xo_rd (rd_assign rfl) rfl ?_
      refine xo_nil ?_
      refine xq_seq ?_
      refine xc_ret ?_
      refine xq_block_ret ?_
      refine xq_then_ret ?_
    exact xq_sub (List.sublist_cons_self _ _) (xq_ret1 (.inl rfl) Tryz.results38 rfl ⟨by rw [hE], x, hx, by rw [jnA, hE]; rfl, rfl⟩)
  rw [if_neg hbig] at hE
  unfold Rm.blks
  have hjn := fun a b c F => xj_ro (W := W) (a := a) (b := b) (c := c) (w := wlb x.ws) (F := F) x.ro (fun R => xf_join x.ro hx.ro m)
  by_cases hj : joinR x.ro.most x.ro.ms m = 0
  · rw [hj] at hE hjn
    focus
      refine xc_seq ?_
      refine xc_region ?_
      refine xo_ef rfl (ef_box rfl fun r3 => ?_)
      refine xo_rd (rd_assign rfl) rfl ?_
      refine xo_nil ?_
      refine xq_seq ?_
      refine xc_seq ?_
      refine xc_block ?_
      refine xc_seq ?_
      refine xc_region ?_
      refine xo_rd (rd_move rfl) rfl ?_
      refine xo_rd (rd_eqnil rfl) rfl ?_
      refine xo_rd (rd_assign rfl) rfl ?_
      refine xo_nil ?_
      refine xq_seq ?_
      refine xc_condf rfl ?_
      refine xc_seq ?_
      refine xc_region ?_
      refine xo_rd (rd_fieldAddr rfl) rfl ?_
      refine xo_rd (rd_load1 rfl (Cl.o0 rfl)) rfl ?_
      refine xo_rd (rd_gtr rfl rfl) rfl ?_
      refine xo_rd (rd_assign rfl) rfl ?_
      refine xo_nil ?_
      refine xq_seq ?_
      refine xc_dec rfl (fun h1 => (by exfalso; omega)) (fun h1 => ?_)
      refine xc_skip ?_
      refine xq_block ?_
      refine xq_seq ?_
      refine xc_seq ?_
      refine xc_seq ?_
      refine xc_drawM [0, 1, 2, 4, 8, 0, 48, 127] [0, 1, 2, 4, 8, 0, 48, 127] ([(r3, Obj.cells m.enc.toArray 49 (0, 0)), (r, Obj.cells (rcl x.ro.c x.fr x.mb).toArray 81 (0, 0))]) (by kernel_rfl) (by kernel_rfl) (by kernel_rfl) ?_
      refine xm_take 0 (m' := 1) rfl (by kernel_rfl) (by first | exact Sb.refl | exact Sb.nil | (repeat (first | exact Sb.nil | exact Sb.refl | exact Sb.app0 | apply Sb.keep | apply Sb.keepApp | apply Sb.cons | apply Sb.app))) (rd_move rfl) rfl (by kernel_rfl) ?_
      refine xm_take 1 (m' := 3) rfl (by kernel_rfl) (by first | exact Sb.refl | exact Sb.nil | (repeat (first | exact Sb.nil | exact Sb.refl | exact Sb.app0 | apply Sb.keep | apply Sb.keepApp | apply Sb.cons | apply Sb.app))) (rd_nilCheck rfl) rfl (by kernel_rfl) ?_
      refine xm_take 2 (m' := 7) rfl (by kernel_rfl) (by first | exact Sb.refl | exact Sb.nil | (repeat (first | exact Sb.nil | exact Sb.refl | exact Sb.app0 | apply Sb.keep | apply Sb.keepApp | apply Sb.cons | apply Sb.app))) (rd_fieldAddr rfl) rfl (by kernel_rfl) ?_
      refine xm_take 3 (m' := 15) rfl (by kernel_rfl) (by first | exact Sb.refl | exact Sb.nil | (repeat (first | exact Sb.nil | exact Sb.refl | exact Sb.app0 | apply Sb.keep | apply Sb.keepApp | apply Sb.cons | apply Sb.app))) (rd_fieldAddr rfl) rfl (by kernel_rfl) ?_
      refine xm_take 4 (m' := 31) rfl (by kernel_rfl) (by first | exact Sb.refl | exact Sb.nil | (repeat (first | exact Sb.nil | exact Sb.refl | exact Sb.app0 | apply Sb.keep | apply Sb.keepApp | apply Sb.cons | apply Sb.app))) (rd_load1 rfl (Cl.own (List.mem_cons_of_mem _ List.mem_cons_self) rfl)) rfl (by kernel_rfl) ?_
      refine xm_take 5 (m' := 63) rfl (by kernel_rfl) (by first | exact Sb.refl | exact Sb.nil | (repeat (first | exact Sb.nil | exact Sb.refl | exact Sb.app0 | apply Sb.keep | apply Sb.keepApp | apply Sb.cons | apply Sb.app))) (rd_loadB rfl Kn.o0 (by rfl)) rfl (by kernel_rfl) ?_
      refine xm_one 6 (m' := 127) rfl (by kernel_rfl) rfl (by kernel_rfl) (ef_call rfl (XF.mono (hjn _ _ _ _) ?_))
      rintro v L' ⟨rfl, y, ⟨hy, hyc, hym, hyms⟩, rfl⟩
      refine ⟨(by first | exact Sb.refl | exact Sb.nil | (repeat (first | exact Sb.nil | exact Sb.refl | exact Sb.app0 | apply Sb.keep | apply Sb.keepApp | apply Sb.cons | apply Sb.app))), ?_⟩
      refine xm_take 7 (m' := 255) rfl (by kernel_rfl) (by first | exact Sb.refl | exact Sb.nil | (repeat (first | exact Sb.nil | exact Sb.refl | exact Sb.app0 | apply Sb.keep | apply Sb.keepApp | apply Sb.cons | apply Sb.app))) (rd_assign rfl) rfl (by kernel_rfl) ?_
      refine xm_done (by kernel_rfl) ?_
      refine xq_seq ?_
      refine xc_seq ?_
      refine xc_region ?_
      refine xo_rd (rd_move rfl) rfl ?_
      refine xo_rd (rd_neq rfl rfl) rfl ?_
      refine xo_nil ?_
      refine xq_seq ?_
      refine xc_condf rfl ?_
      refine xc_skip ?_
      refine xq_seq ?_
    obtain ⟨hright, hget⟩ := joinR_ok hj
    have hid0 : 0 ≤ m.id := by
      rcases Int.lt_or_le m.id 0 with h | h
      · exact absurd (.inl h) hright
      · exact h
    have hym2 : y.ms = x.ro.ms ++ [m] := by rw [hyms]; unfold joinL; rw [if_pos hj]
    have hni : m.id ∉ x.ws.map fun w => w.a.id := by rw [hx.ids]; exact getId_none hget
    have hwn : (watV x.ws m.id).isSome = false := by unfold watV; rw [watF_none hni]; rfl
    have hfj := fun a b c mm F => xj_fm (W := W) (a := a) (b := b) (c := c) (w := wlb x.ws) (m := mm) (F := F) x.fr x.fm (fun R => xf_Join x.fr x.fm hx.fm m.id m.mod)
    generalize joinE x.fm.a m.id = je at *
    focus
      refine xc_seq ?_
      refine xc_drawM [0, 1, 2, 4, 0, 16, 32, 0, 128, 328] [0, 1, 2, 4, 0, 16, 32, 0, 128, 328] ([(r3, Obj.cells m.enc.toArray 49 (0, 0)), (r, Obj.cells (rcl x.ro.c x.fr x.mb).toArray 81 (0, 0))]) (by kernel_rfl) (by kernel_rfl) (by kernel_rfl) ?_
      refine xm_take 0 (m' := 1) rfl (by kernel_rfl) (by first | exact Sb.refl | exact Sb.nil | (repeat (first | exact Sb.nil | exact Sb.refl | exact Sb.app0 | apply Sb.keep | apply Sb.keepApp | apply Sb.cons | apply Sb.app))) (rd_move rfl) rfl (by kernel_rfl) ?_
      refine xm_take 1 (m' := 3) rfl (by kernel_rfl) (by first | exact Sb.refl | exact Sb.nil | (repeat (first | exact Sb.nil | exact Sb.refl | exact Sb.app0 | apply Sb.keep | apply Sb.keepApp | apply Sb.cons | apply Sb.app))) (rd_nilCheck rfl) rfl (by kernel_rfl) ?_
      refine xm_take 2 (m' := 7) rfl (by kernel_rfl) (by first | exact Sb.refl | exact Sb.nil | (repeat (first | exact Sb.nil | exact Sb.refl | exact Sb.app0 | apply Sb.keep | apply Sb.keepApp | apply Sb.cons | apply Sb.app))) (rd_fieldAddr rfl) rfl (by kernel_rfl) ?_
      refine xm_take 3 (m' := 15) rfl (by kernel_rfl) (by first | exact Sb.refl | exact Sb.nil | (repeat (first | exact Sb.nil | exact Sb.refl | exact Sb.app0 | apply Sb.keep | apply Sb.keepApp | apply Sb.cons | apply Sb.app))) (rd_load1 rfl (Cl.own (List.mem_cons_of_mem _ List.mem_cons_self) rfl)) rfl (by kernel_rfl) ?_
      refine xm_take 4 (m' := 31) rfl (by kernel_rfl) (by first | exact Sb.refl | exact Sb.nil | (repeat (first | exact Sb.nil | exact Sb.refl | exact Sb.app0 | apply Sb.keep | apply Sb.keepApp | apply Sb.cons | apply Sb.app))) (rd_fieldAddr rfl) rfl (by kernel_rfl) ?_
      refine xm_take 5 (m' := 63) rfl (by kernel_rfl) (by first | exact Sb.refl | exact Sb.nil | (repeat (first | exact Sb.nil | exact Sb.refl | exact Sb.app0 | apply Sb.keep | apply Sb.keepApp | apply Sb.cons | apply Sb.app))) (rd_load1 rfl (Cl.o0 rfl)) rfl (by kernel_rfl) ?_
      refine xm_take 6 (m' := 127) rfl (by kernel_rfl) (by first | exact Sb.refl | exact Sb.nil | (repeat (first | exact Sb.nil | exact Sb.refl | exact Sb.app0 | apply Sb.keep | apply Sb.keepApp | apply Sb.cons | apply Sb.app))) (rd_convn rfl (by omega) (by omega)) rfl (by kernel_rfl) ?_
      refine xm_take 7 (m' := 255) rfl (by kernel_rfl) (by first | exact Sb.refl | exact Sb.nil | (repeat (first | exact Sb.nil | exact Sb.refl | exact Sb.app0 | apply Sb.keep | apply Sb.keepApp | apply Sb.cons | apply Sb.app))) (rd_fieldAddr rfl) rfl (by kernel_rfl) ?_
      refine xm_take 8 (m' := 511) rfl (by kernel_rfl) (by first | exact Sb.refl | exact Sb.nil | (repeat (first | exact Sb.nil | exact Sb.refl | exact Sb.app0 | apply Sb.keep | apply Sb.keepApp | apply Sb.cons | apply Sb.app))) (rd_load1 rfl (Cl.o0 rfl)) rfl (by kernel_rfl) ?_
      refine xm_one 9 (m' := 1023) rfl (by kernel_rfl) rfl (by kernel_rfl) (ef_call rfl (XF.mono (hfj _ _ _ _ _) ?_))
      rintro v L' ⟨rfl, z, ⟨hz, hza⟩, rfl⟩
      refine ⟨(by first | exact Sb.refl | exact Sb.nil | (repeat (first | exact Sb.nil | exact Sb.refl | exact Sb.app0 | apply Sb.keep | apply Sb.keepApp | apply Sb.cons | apply Sb.app))), ?_⟩
      refine xm_done (by kernel_rfl) ?_
      refine xq_seq ?_
    focus
      refine xc_seq ?_
      refine xc_drawM [0, 1, 2, 4, 0, 16, 0, 127] [0, 1, 2, 4, 0, 16, 0, 127] ([(r3, Obj.cells m.enc.toArray 49 (0, 0)), (r, Obj.cells (rcl x.ro.c x.fr x.mb).toArray 81 (0, 0))]) (by kernel_rfl) (by kernel_rfl) (by kernel_rfl) ?_
      refine xm_take 0 (m' := 1) rfl (by kernel_rfl) (by first | exact Sb.refl | exact Sb.nil | (repeat (first | exact Sb.nil | exact Sb.refl | exact Sb.app0 | apply Sb.keep | apply Sb.keepApp | apply Sb.cons | apply Sb.app))) (rd_move rfl) rfl (by kernel_rfl) ?_
      refine xm_take 1 (m' := 3) rfl (by kernel_rfl) (by first | exact Sb.refl | exact Sb.nil | (repeat (first | exact Sb.nil | exact Sb.refl | exact Sb.app0 | apply Sb.keep | apply Sb.keepApp | apply Sb.cons | apply Sb.app))) (rd_nilCheck rfl) rfl (by kernel_rfl) ?_
      refine xm_take 2 (m' := 7) rfl (by kernel_rfl) (by first | exact Sb.refl | exact Sb.nil | (repeat (first | exact Sb.nil | exact Sb.refl | exact Sb.app0 | apply Sb.keep | apply Sb.keepApp | apply Sb.cons | apply Sb.app))) (rd_fieldAddr rfl) rfl (by kernel_rfl) ?_
      refine xm_take 3 (m' := 15) rfl (by kernel_rfl) (by first | exact Sb.refl | exact Sb.nil | (repeat (first | exact Sb.nil | exact Sb.refl | exact Sb.app0 | apply Sb.keep | apply Sb.keepApp | apply Sb.cons | apply Sb.app))) (rd_load1 rfl (Cl.o1 rfl)) rfl (by kernel_rfl) ?_
      refine xm_take 4 (m' := 31) rfl (by kernel_rfl) (by first | exact Sb.refl | exact Sb.nil | (repeat (first | exact Sb.nil | exact Sb.refl | exact Sb.app0 | apply Sb.keep | apply Sb.keepApp | apply Sb.cons | apply Sb.app))) (rd_fieldAddr rfl) rfl (by kernel_rfl) ?_
      refine xm_take 5 (m' := 63) rfl (by kernel_rfl) (by first | exact Sb.refl | exact Sb.nil | (repeat (first | exact Sb.nil | exact Sb.refl | exact Sb.app0 | apply Sb.keep | apply Sb.keepApp | apply Sb.cons | apply Sb.app))) (rd_load1 rfl (Cl.o0 rfl)) rfl (by kernel_rfl) ?_
      refine xm_take 6 (m' := 127) rfl (by kernel_rfl) (by first | exact Sb.refl | exact Sb.nil | (repeat (first | exact Sb.nil | exact Sb.refl | exact Sb.app0 | apply Sb.keep | apply Sb.keepApp | apply Sb.cons | apply Sb.app))) (rd_cast (v' := .agg (wEnc false none 0 0).toArray) (rd_build (T := 64) rfl rfl rfl) (by kernel_rfl)) rfl (by kernel_rfl) ?_
      refine xm_one 7 (m' := 255) rfl (by kernel_rfl) rfl (by kernel_rfl) (ef_mapUpdate [_, _] _ hx.mp rfl rfl rfl rfl fun mo2 hmp2 => ?_)
      refine ⟨(by first | exact Sb.refl | exact Sb.nil | (repeat (first | exact Sb.nil | exact Sb.refl | exact Sb.app0 | apply Sb.keep | apply Sb.keepApp | apply Sb.cons | apply Sb.app))), ?_⟩
      refine xm_done (by kernel_rfl) ?_
      refine xq_seq ?_
      refine xc_seq ?_
      refine xc_region ?_
      refine xo_rd (rd_assign rfl) rfl ?_
      refine xo_nil ?_
      refine xq_seq ?_
      refine xc_ret ?_
    have hmp3 : MpIs .i64 mo2 (watV (x.ws ++ [newW m.id])) (x.ws ++ [newW m.id]).length := hmp2.cong (fun z => (watV_snoc (w := newW m.id) hni z).symm) (by rw [hwn, List.length_append]; rfl)
    have hyo : (Rm.mk y x.fr z x.mb mo2 (x.ws ++ [newW m.id])).Ok := by
      refine ⟨hy, hz, hmp3, fun w hw => ?_, ?_, fun u hu => ?_⟩
      · rcases List.mem_append.1 hw with h | h
        · exact hx.wo w h
        · rw [List.mem_singleton.1 h]; exact ⟨SlQ.nil, Nat.zero_le _⟩
      · dsimp only
        rw [hym2, List.map_append, List.map_append, hx.ids]; rfl
      · dsimp only at hu
        rw [hym2] at hu
        rcases List.mem_append.1 hu with h | h
        · exact hx.rg u h
        · rw [List.mem_singleton.1 h]; omega
    have hra : (Rm.mk y x.fr z x.mb mo2 (x.ws ++ [newW m.id])).ra = jnA x.ra m := by
      rw [jnA, hE, if_pos rfl]
      unfold Rm.ra Rm.was
      dsimp only
      rw [hym, hym2, hza, List.map_append]; rfl
    all_goals exact xq_sub (List.sublist_cons_self _ _) (xq_ret1 (.inl rfl) Tryz.results38 rfl ⟨by rw [hE], _, hyo, hra, by dsimp only; rw [hyc, wlb_snoc, show (newW m.id).l = [] from rfl, List.append_nil]; rfl⟩)
  · have hjl : joinL x.ro.most x.ro.ms m = x.ro.ms := by unfold joinL; rw [if_neg hj]
    rw [hjl] at hjn
    generalize hje : joinR x.ro.most x.ro.ms m = je at *
    focus
      refine xc_seq ?_
      refine xc_region ?_
      refine xo_ef rfl (ef_box rfl fun r3 => ?_)
      refine xo_rd (rd_assign rfl) rfl ?_
      refine xo_nil ?_
      refine xq_seq ?_
      refine xc_seq ?_
      refine xc_block ?_
      refine xc_seq ?_
      refine xc_region ?_
      refine xo_rd (rd_move rfl) rfl ?_
      refine xo_rd (rd_eqnil rfl) rfl ?_
      refine xo_rd (rd_assign rfl) rfl ?_
      refine xo_nil ?_
      refine xq_seq ?_
      refine xc_condf rfl ?_
      refine xc_seq ?_
      refine xc_region ?_
      refine xo_rd (rd_fieldAddr rfl) rfl ?_
      refine xo_rd (rd_load1 rfl (Cl.o0 rfl)) rfl ?_
      refine xo_rd (rd_gtr rfl rfl) rfl ?_
      refine xo_rd (rd_assign rfl) rfl ?_
      refine xo_nil ?_
      refine xq_seq ?_
      refine xc_dec rfl (fun h1 => (by exfalso; omega)) (fun h1 => ?_)
      refine xc_skip ?_
      refine xq_block ?_
      refine xq_seq ?_
      refine xc_seq ?_
      refine xc_seq ?_
      refine xc_drawM [0, 1, 2, 4, 8, 0, 48, 127] [0, 1, 2, 4, 8, 0, 48, 127] ([(r3, Obj.cells m.enc.toArray 49 (0, 0)), (r, Obj.cells (rcl x.ro.c x.fr x.mb).toArray 81 (0, 0))]) (by kernel_rfl) (by kernel_rfl) (by kernel_rfl) ?_
      refine xm_take 0 (m' := 1) rfl (by kernel_rfl) (by first | exact Sb.refl | exact Sb.nil | (repeat (first | exact Sb.nil | exact Sb.refl | exact Sb.app0 | apply Sb.keep | apply Sb.keepApp | apply Sb.cons | apply Sb.app))) (rd_move rfl) rfl (by kernel_rfl) ?_
      refine xm_take 1 (m' := 3) rfl (by kernel_rfl) (by first | exact Sb.refl | exact Sb.nil | (repeat (first | exact Sb.nil | exact Sb.refl | exact Sb.app0 | apply Sb.keep | apply Sb.keepApp | apply Sb.cons | apply Sb.app))) (rd_nilCheck rfl) rfl (by kernel_rfl) ?_
      refine xm_take 2 (m' := 7) rfl (by kernel_rfl) (by first | exact Sb.refl | exact Sb.nil | (repeat (first | exact Sb.nil | exact Sb.refl | exact Sb.app0 | apply Sb.keep | apply Sb.keepApp | apply Sb.cons | apply Sb.app))) (rd_fieldAddr rfl) rfl (by kernel_rfl) ?_
      refine xm_take 3 (m' := 15) rfl (by kernel_rfl) (by first | exact Sb.refl | exact Sb.nil | (repeat (first | exact Sb.nil | exact Sb.refl | exact Sb.app0 | apply Sb.keep | apply Sb.keepApp | apply Sb.cons | apply Sb.app))) (rd_fieldAddr rfl) rfl (by kernel_rfl) ?_
      refine xm_take 4 (m' := 31) rfl (by kernel_rfl) (by first | exact Sb.refl | exact Sb.nil | (repeat (first | exact Sb.nil | exact Sb.refl | exact Sb.app0 | apply Sb.keep | apply Sb.keepApp | apply Sb.cons | apply Sb.app))) (rd_load1 rfl (Cl.own (List.mem_cons_of_mem _ List.mem_cons_self) rfl)) rfl (by kernel_rfl) ?_
      refine xm_take 5 (m' := 63) rfl (by kernel_rfl) (by first | exact Sb.refl | exact Sb.nil | (repeat (first | exact Sb.nil | exact Sb.refl | exact Sb.app0 | apply Sb.keep | apply Sb.keepApp | apply Sb.cons | apply Sb.app))) (rd_loadB rfl Kn.o0 (by rfl)) rfl (by kernel_rfl) ?_
      refine xm_one 6 (m' := 127) rfl (by kernel_rfl) rfl (by kernel_rfl) (ef_call rfl (XF.mono (hjn _ _ _ _) ?_))
      rintro v L' ⟨rfl, y, ⟨hy, hyc, hym, hyms⟩, rfl⟩
      refine ⟨(by first | exact Sb.refl | exact Sb.nil | (repeat (first | exact Sb.nil | exact Sb.refl | exact Sb.app0 | apply Sb.keep | apply Sb.keepApp | apply Sb.cons | apply Sb.app))), ?_⟩
      refine xm_take 7 (m' := 255) rfl (by kernel_rfl) (by first | exact Sb.refl | exact Sb.nil | (repeat (first | exact Sb.nil | exact Sb.refl | exact Sb.app0 | apply Sb.keep | apply Sb.keepApp | apply Sb.cons | apply Sb.app))) (rd_assign rfl) rfl (by kernel_rfl) ?_
      refine xm_done (by kernel_rfl) ?_
      refine xq_seq ?_
      refine xc_seq ?_
      refine xc_region ?_
      refine xo_rd (rd_move rfl) rfl ?_
      refine xo_rd (rd_neq rfl rfl) rfl ?_
      refine xo_nil ?_
      refine xq_seq ?_
      refine xc_ndec rfl (fun h2 => ?_) (fun h2 => (by exfalso; omega))
      refine xc_seq ?_
      refine xc_region ?_
      refine xo_rd (rd_move rfl) rfl ?_
      refine xo_rd (rd_assign rfl) rfl ?_
      refine xo_nil ?_
      refine xq_seq ?_
      refine xc_ret ?_
      refine xq_then_ret ?_
    have hyo : (Rm.mk y x.fr x.fm x.mb x.mo x.ws).Ok := ⟨hy, hx.fm, hx.mp, hx.wo, by dsimp only; rw [hyms]; exact hx.ids, by dsimp only; rw [hyms]; exact hx.rg⟩
    all_goals exact xq_sub (List.sublist_cons_self _ _) (xq_ret1 (.inl rfl) Tryz.results38 rfl ⟨by rw [hE], _, hyo, by rw [jnA, hE, if_neg hj]; unfold Rm.ra Rm.was; dsimp only; rw [hym, hyms], by dsimp only; rw [hyc]⟩)
end Go.Proofs.YtmdeajdaeihniaaGreat.X
