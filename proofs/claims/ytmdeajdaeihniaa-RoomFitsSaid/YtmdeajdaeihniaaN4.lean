/-
  Texts of my own, put together: walks and laws for this seat. No condition.
-/
import Derived.Test.YtmdeajdaeihniaaN3
/-
  Chapter 13: what a floor is, wherever it lies; what it answers: no condition.
-/
namespace Go.Proofs.Ytmdeajdaeihniaa.X
open Go Go.RowKit
set_option linter.unusedVariables false
set_option linter.unusedSimpArgs false
/-- A floor, by itself. -/
structure Fa where
  bound : Int
  sil : Int
  ms : List (Int × Bool)
  held : Bool
  no : Int
  who : Int
  at' : Int
  heard : Int
  pend : Bool
  wt : List Int
  gs : List (Int × Int × Int)
def isM (l : List (Int × Bool)) (w : Int) : Bool := l.any fun e => e.1 == w
def roleV (l : List (Int × Bool)) (w : Int) : Option Value := (l.find? fun e => e.1 == w).map fun e => .int .i64 (if e.2 = true then 1 else 0)
def modA (l : List (Int × Bool)) (w : Int) : Bool := ((l.find? fun e => e.1 == w).map (·.2)).getD false
def insM (w : Int) (m : Bool) : List (Int × Bool) → List (Int × Bool)
  | [] => [(w, m)]
  | e :: r => if w < e.1 then (w, m) :: e :: r else e :: insM w m r
def grantF (f : Fa) (w now : Int) : Fa := ⟨f.bound, f.sil, f.ms, true, (f.gs.length : Int) + 1, w, now, now, true, f.wt, f.gs ++ [((f.gs.length : Int) + 1, w, now)]⟩
def freeF (f : Fa) (wt : List Int) : Fa := ⟨f.bound, f.sil, f.ms, false, 0, 0, 0, 0, false, wt, f.gs⟩
def endF (f : Fa) (now : Int) : Fa := match f.wt with
  | [] => freeF f []
  | w :: r => grantF (freeF f r) w now
def holdsA (f : Fa) (w : Int) : Bool := f.held && decide (f.who = w)
def joinE (f : Fa) (w : Int) : Int := if isM f.ms w = true then 132 else if 32 ≤ f.ms.length then 131 else 0
def joinF (f : Fa) (w : Int) (m : Bool) : Fa := if joinE f w = 0 then { f with ms := insM w m f.ms } else f
def leaveE (f : Fa) (w : Int) : Int := if isM f.ms w = true then 0 else 130
def outF (f : Fa) (w : Int) : Fa := { f with ms := f.ms.filter fun e => !(e.1 == w), wt := f.wt.filter fun x => !decide (x = w) }
def leaveF (f : Fa) (w now : Int) : Fa := if isM f.ms w = true then (if holdsA f w = true then endF (outF f w) now else outF f w) else f
def reqE (f : Fa) (w : Int) : Int := if isM f.ms w = true then (if holdsA f w = true ∨ w ∈ f.wt then 132 else if f.held = true ∧ f.bound ≤ f.wt.length then 131 else 0) else 130
def reqF (f : Fa) (w now : Int) : Fa := if reqE f w = 0 then (if f.held = true then { f with wt := f.wt ++ [w] } else grantF f w now) else f
def relE (f : Fa) (w : Int) : Int := if isM f.ms w = true then (if holdsA f w = true then 0 else 133) else 130
def relF (f : Fa) (w now : Int) : Fa := if relE f w = 0 then endF f now else f
def revE (f : Fa) (b w : Int) : Int := if isM f.ms b = true ∧ isM f.ms w = true then (if modA f.ms b = true then relE f w else 134) else 130
def revF (f : Fa) (b w now : Int) : Fa := if revE f b w = 0 then endF f now else f
def heardF (f : Fa) (w now : Int) (k : Bool) : Fa := if holdsA f w = true then { f with heard := now, pend := f.pend && !k } else f
def tickA (f : Fa) (now : Int) : Bool := f.held && (decide (f.heard ≤ now) && decide (f.sil ≤ now - f.heard))
def tickF (f : Fa) (now : Int) : Fa := if tickA f now = true then endF f now else f
theorem isM_find {l : List (Int × Bool)} {w : Int} : (roleV l w).isSome = isM l w := by
  unfold roleV isM
  rw [Option.isSome_map]
  induction l with
  | nil => rfl
  | cons x r ih =>
    rw [List.find?_cons, List.any_cons]
    cases x.1 == w
    · simpa using ih
    · rfl
theorem insM_len (w : Int) (m : Bool) : ∀ l : List (Int × Bool), (insM w m l).length = l.length + 1
  | [] => rfl
  | e :: r => by unfold insM; split <;> simp [insM_len w m r]
theorem insM_mem {w : Int} {m : Bool} : ∀ {l : List (Int × Bool)} {e : Int × Bool}, e ∈ insM w m l ↔ e = (w, m) ∨ e ∈ l
  | [], e => by simp [insM]
  | x :: r, e => by
    unfold insM
    split
    · simp
    · simp only [List.mem_cons, insM_mem (l := r)]
      constructor
      · rintro (h | h | h) <;> simp [h]
      · rintro (h | h | h) <;> simp [h]
theorem isM_mem {l : List (Int × Bool)} {w : Int} : isM l w = true ↔ w ∈ l.map (·.1) := by
  unfold isM
  rw [List.any_eq_true, List.mem_map]
  simp
theorem insM_nodup {w : Int} {m : Bool} : ∀ {l : List (Int × Bool)}, (l.map (·.1)).Nodup → isM l w = false → ((insM w m l).map (·.1)).Nodup
  | [], _, _ => by simp [insM]
  | x :: r, hn, hw => by
    have hw' : ¬ w ∈ (x :: r).map (·.1) := fun h => by rw [isM_mem.2 h] at hw; cases hw
    unfold insM
    split
    · exact List.nodup_cons.2 ⟨hw', hn⟩
    · rw [List.map_cons, List.nodup_cons] at hn ⊢
      rw [List.map_cons, List.mem_cons, not_or] at hw'
      refine ⟨fun h => ?_, insM_nodup hn.2 ?_⟩
      · obtain ⟨e, he, hx⟩ := List.mem_map.1 h
        rcases insM_mem.1 he with rfl | he
        · exact hw'.1 hx
        · exact hn.1 (List.mem_map.2 ⟨e, he, hx⟩)
      · cases hm : isM r w with
        | false => rfl
        | true => exact absurd (isM_mem.1 hm) hw'.2
theorem find_ins (w : Int) (m : Bool) : ∀ {l : List (Int × Bool)}, isM l w = false → ∀ z, (insM w m l).find? (fun e => e.1 == z) = if z = w then some (w, m) else l.find? (fun e => e.1 == z)
  | [], _, z => by
    unfold insM
    by_cases h : z = w
    · subst h; simp
    · have : (w == z) = false := by simp; exact fun e => h e.symm
      rw [List.find?_cons, this, if_neg h]
  | x :: r, hw, z => by
    have hx : (x.1 == w) = false ∧ isM r w = false := by
      unfold isM at hw ⊢
      rw [List.any_cons, Bool.or_eq_false_iff] at hw
      exact hw
    unfold insM
    split
    · rw [List.find?_cons]
      by_cases h : z = w
      · subst h; simp
      · have : (w == z) = false := by simp; exact fun e => h e.symm
        rw [this, if_neg h]
    · rw [List.find?_cons, List.find?_cons, find_ins w m hx.2 z]
      by_cases h : z = w
      · subst h; simp [hx.1]
      · rw [if_neg h]
        cases x.1 == z <;> simp [h]
theorem roleV_ins {l : List (Int × Bool)} {w : Int} {m : Bool} (h : isM l w = false) (z : Int) : roleV (insM w m l) z = mupd (roleV l) w (some (.int .i64 (if m = true then 1 else 0))) z := by
  unfold roleV mupd
  rw [find_ins w m h]
  split <;> rfl
theorem roleV_out {l : List (Int × Bool)} {w : Int} (z : Int) : roleV (l.filter fun e => !(e.1 == w)) z = mupd (roleV l) w none z := by
  unfold roleV mupd
  by_cases h : z = w
  · subst h
    rw [if_pos rfl]
    have : (l.filter fun e => !(e.1 == z)).find? (fun e => e.1 == z) = none := by
      rw [List.find?_eq_none]
      intro x hx
      have := (List.mem_filter.1 hx).2
      simpa using this
    rw [this]; rfl
  · rw [if_neg h]
    congr 1
    induction l with
    | nil => rfl
    | cons x r ih =>
      rw [List.filter_cons]
      by_cases hx : x.1 = w
      · have h1 : (x.1 == w) = true := by simp [hx]
        have h2 : (x.1 == z) = false := by simp [hx]; exact fun e => h e.symm
        rw [h1, List.find?_cons, h2]
        simpa using ih
      · have h1 : (x.1 == w) = false := by simp [hx]
        rw [h1]
        simp only [Bool.not_false, if_true, List.find?_cons]
        cases x.1 == z
        · simpa using ih
        · rfl
theorem out_len {l : List (Int × Bool)} {w : Int} (hn : (l.map (·.1)).Nodup) (h : isM l w = true) : (l.filter fun e => !(e.1 == w)).length = l.length - 1 := by
  induction l with
  | nil => cases h
  | cons x r ih =>
    rw [List.map_cons, List.nodup_cons] at hn
    rw [List.filter_cons]
    by_cases hx : x.1 = w
    · have h1 : (x.1 == w) = true := by simp [hx]
      rw [h1]
      have h2 : (r.filter fun e => !(e.1 == w)) = r := by
        rw [List.filter_eq_self]
        intro e he
        have : ¬ e.1 = w := fun h3 => hn.1 (List.mem_map.2 ⟨e, he, h3.trans hx.symm⟩)
        simp [this]
      simp [h2]
    · have h1 : (x.1 == w) = false := by simp [hx]
      have h2 : isM r w = true := by
        unfold isM at h ⊢
        rw [List.any_cons, h1, Bool.false_or] at h; exact h
      have h3 : 0 < r.length := by
        cases r with
        | nil => cases h2
        | cons _ _ => exact Nat.succ_pos _
      rw [h1]
      simp only [Bool.not_false, if_true, List.length_cons, ih hn.2 h2]
      omega
theorem out_nodup {l : List (Int × Bool)} {w : Int} (hn : (l.map (·.1)).Nodup) : ((l.filter fun e => !(e.1 == w)).map (·.1)).Nodup := hn.sublist (List.filter_sublist.map _)
/-! ### its memory -/
def gEnc (g : Int × Int × Int) : List Value := [.int .u64 g.1, .int .u32 g.2.1, .int .u64 g.2.2]
theorem gEnc_len (g : Int × Int × Int) : (gEnc g).length = 3 := rfl
def fcl (bound sil : Int) (mb : Nat) (no who at' heard : Int) (pend held : Bool) (wp : Option Addr) (wn wc : Nat) (gp : Option Addr) (gn gc : Nat) : List Value :=
  [.int .i64 bound, .int .u64 sil, .map (some mb), .int .u64 no, .int .u32 who, .int .u64 at', .int .u64 heard, .bool pend, .bool held, .slice wp wn wc, .slice gp gn gc]
structure Fm where
  a : Fa
  mb : Nat
  mo : Obj
  wp : Option Addr
  wc : Nat
  wl : List Blk
  gp : Option Addr
  gc : Nat
  gl : List Blk
def Fm.cells (x : Fm) : List Value := fcl x.a.bound x.a.sil x.mb x.a.no x.a.who x.a.at' x.a.heard x.a.pend x.a.held x.wp x.a.wt.length x.wc x.gp x.a.gs.length x.gc
structure Fm.Ok (x : Fm) : Prop where
  mp : MpIs .u32 x.mo (roleV x.a.ms) x.a.ms.length
  w : SlQ 1 32 (.slice x.wp x.a.wt.length x.wc) x.a.wt.length (ints .u32 x.a.wt) x.wl
  g : SlQ 3 39 (.slice x.gp x.a.gs.length x.gc) x.a.gs.length (x.a.gs.flatMap gEnc) x.gl
  nd : (x.a.ms.map (·.1)).Nodup
  bd : 0 ≤ x.a.bound ∧ x.a.bound ≤ 32
  wb : (x.a.wt.length : Int) ≤ x.a.bound
  mn : x.a.ms.length ≤ 32
def Fm.blks (r : Nat) (x : Fm) (L : List Blk) : List Blk := (r, .cells x.cells.toArray 98 (0, 0)) :: (x.mb, x.mo) :: (x.wl ++ (x.gl ++ L))
/-- A floor that can be read. -/
structure FR (W : World) (L : List Blk) (r : Nat) (x : Fm) : Prop where
  cl : ∀ (j : Nat) (u : Value), x.cells[j]? = some u → Cl W L r j u
  kn : Kn W L x.mb x.mo
  w : Rs W L x.wp (ints .u32 x.a.wt)
  g : Rs W L x.gp (x.a.gs.flatMap gEnc)
theorem FR.mono {W : World} {L L' : List Blk} {r : Nat} {x : Fm} (h : FR W L r x) (hm : ∀ z, z ∈ L → z ∈ L') : FR W L' r x := ⟨fun j u hj => (h.cl j u hj).mono hm, h.kn.mono hm, h.w.mono hm, h.g.mono hm⟩
theorem Fm.Ok.fr {W : World} {L : List Blk} {r : Nat} {x : Fm} (h : x.Ok) (hm : ∀ z, z ∈ (r, Obj.cells x.cells.toArray 98 (0, 0)) :: (x.mb, x.mo) :: (x.wl ++ x.gl) → z ∈ L) : FR W L r x :=
  ⟨fun j u hj => Cl.own (hm _ List.mem_cons_self) (by simpa using hj), .inr (hm _ (List.mem_cons_of_mem _ List.mem_cons_self)), h.w.rs fun z hz => hm _ (List.mem_cons_of_mem _ (List.mem_cons_of_mem _ (List.mem_append_left _ hz))), h.g.rs fun z hz => hm _ (List.mem_cons_of_mem _ (List.mem_cons_of_mem _ (List.mem_append_right _ hz)))⟩
end Go.Proofs.Ytmdeajdaeihniaa.X
/-
  Chapter 13: the floor's own functions, by walks of my own.
-/
namespace Go.Proofs.Ytmdeajdaeihniaa.X
open Go Go.RowKit
set_option linter.unusedVariables false
set_option linter.unusedSimpArgs false
def hEnc (no who at' heard : Int) (pend held : Bool) : List Value := [.int .u64 no, .int .u32 who, .int .u64 at', .int .u64 heard, .bool pend, .bool held]
theorem hEnc_len (no who at' heard : Int) (pend held : Bool) : (hEnc no who at' heard pend held).length = 6 := rfl
theorem fcl_len (bound sil : Int) (mb : Nat) (no who at' heard : Int) (pend held : Bool) (wp : Option Addr) (wn wc : Nat) (gp : Option Addr) (gn gc : Nat) : (fcl bound sil mb no who at' heard pend held wp wn wc gp gn gc).length = 11 := rfl
theorem xf_member {W : World} {L : List Blk} (r : Nat) (mb : Nat) (mo : Obj) (ms : List (Int × Bool)) (hc : Cl W L r 2 (.map (some mb))) (hk : Kn W L mb mo) (hm : MpIs .u32 mo (roleV ms) ms.length) (p : Option Addr) (n c : Nat) (ws : List Int) (hn : ws.length = n) (hr : Rs W L p (ints .u32 ws)) (hs : n ≤ 1000000) :
    XF Try.prog W 66 #[.pointer (some ⟨r, 0, none⟩), .slice p n c] L (fun v L' => v = .int .i64 (if (ws.all fun w => isM ms w) = true then 0 else 130) ∧ L' = L) := by
  refine xf_enter (args := [_, _]) Try.func66 rfl Try.ntmps66 rfl ?_
  focus
    refine xc_seq ?_
    refine xc_region ?_
    refine xo_rd (rd_assign rfl) rfl ?_
    refine xo_nil ?_
    refine xq_seq ?_
    refine xc_seq ?_
    refine xc_seq ?_
    refine xc_region ?_
    refine xo_rd (rd_move rfl) rfl ?_
    refine xo_rd (rd_eqnil rfl) rfl ?_
    refine xo_nil ?_
    refine xq_seq ?_
    refine xc_condf rfl ?_
    refine xc_skip ?_
    refine xq_seq ?_
    refine xc_seq ?_
    refine xc_seq ?_
    refine xc_region ?_
    refine xo_rd (rd_move rfl) rfl ?_
    refine xo_rd (rd_len rfl) rfl ?_
    refine xo_rd (rd_move rfl) rfl ?_
    refine xo_nil ?_
    refine xq_seq ?_
    refine xc_block ?_
  refine xc_loopK (ι := Nat) (fun i => i ≤ n ∧ (ws.take i).all (fun w => isM ms w) = true) (fun i => n - i) (fun i => [(0, .pointer (some ⟨r, 0, none⟩)), (11, .slice p n c), (12, .int .i64 n), (13, .int .i64 i)]) 0 ⟨Nat.zero_le _, rfl⟩ (by repeat (first | exact keep_nil | refine keep_cons rfl ?_)) ?_
  rintro i ⟨hi, hno⟩
  by_cases hin : i < n
  · obtain ⟨b, o, hpb, hcb⟩ := hr.int (i := i) (by omega)
    subst hpb
    have e1 : ws[i]? = some ws[i] := List.getElem?_eq_getElem (by omega)
    generalize ws[i] = w at *
    focus
      refine xc_seq ?_
      refine xc_region ?_
      refine xo_rd (rd_lss rfl rfl) rfl ?_
      refine xo_nil ?_
      refine xq_seq ?_
      refine xc_seq ?_
      refine xc_dec rfl (fun hz1 => ?_) (fun hz1 => (by exfalso; omega))
      refine xc_skip ?_
      refine xq_seq ?_
      refine xc_seq ?_
      refine xc_block ?_
      refine xc_seq ?_
      refine xc_region ?_
      refine xo_rd (rd_indexAddr rfl rfl (by omega) (by omega)) rfl ?_
      refine xo_rd (rd_load1 rfl hcb) rfl ?_
      refine xo_rd (rd_assign rfl) rfl ?_
      refine xo_nil ?_
      refine xq_seq ?_
      refine xc_seq ?_
      refine xc_region ?_
      refine xo_rd (rd_move rfl) rfl ?_
      refine xo_rd (rd_nilCheck rfl) rfl ?_
      refine xo_rd (rd_fieldAddr rfl) rfl ?_
      refine xo_rd (rd_load1 rfl hc) rfl ?_
      refine xo_rd (rd_move rfl) rfl ?_
      refine xo_rd (rd_lookupOk hm rfl rfl hk) rfl ?_
      refine xo_rd (rd_move rfl) rfl ?_
      refine xo_rd (rd_extract rfl rfl) rfl ?_
      refine xo_rd (rd_extract rfl rfl) rfl ?_
      refine xo_rd (rd_assign rfl) rfl ?_
      refine xo_rd (rd_assign rfl) rfl ?_
      refine xo_nil ?_
      refine xq_seq ?_
      refine xc_seq ?_
      refine xc_region ?_
      refine xo_rd (rd_move rfl) rfl ?_
      refine xo_rd (rd_not rfl) rfl ?_
      refine xo_nil ?_
      refine xq_seq ?_
      refine xc_cond rfl (fun hz2 => ?_) (fun hz2 => ?_)
      refine xc_seq ?_
      refine xc_region ?_
      refine xo_rd (rd_assign rfl) rfl ?_
      refine xo_nil ?_
      refine xq_seq ?_
      refine xc_ret ?_
      refine xq_block_ret ?_
      refine xq_then_ret ?_
      refine xq_then_ret ?_
      refine xq_block_ret ?_
      refine xq_then_ret ?_
      rotate_left
      refine xc_skip ?_
      refine xq_block ?_
      refine xq_seq ?_
      refine xc_region ?_
      refine xo_rd (rd_addn rfl rfl (by omega) (by omega)) rfl ?_
      refine xo_rd (rd_move rfl) rfl ?_
      refine xo_nil ?_
      rotate_left
    · rw [isM_find] at hz2
      refine xq_ret1 (.inl rfl) Try.results66 rfl ⟨?_, rfl⟩
      rw [if_neg]
      intro hall
      have := List.all_eq_true.1 hall w (List.mem_of_getElem? e1)
      rw [this] at hz2; cases hz2
    · rw [isM_find] at hz2
      refine xq_roundK rfl (i + 1) ⟨by omega, ?_⟩ (by omega) (List.Sublist.refl _) (by repeat (first | exact keep_nil | refine keep_cons rfl ?_))
      rw [List.take_add_one, e1, List.all_append, hno]
      simpa using hz2
  · skip
    focus
      refine xc_seq ?_
      refine xc_region ?_
      refine xo_rd (rd_lss rfl rfl) rfl ?_
      refine xo_nil ?_
      refine xq_seq ?_
      refine xc_seq ?_
      refine xc_dec rfl (fun h1 => (by exfalso; omega)) (fun h1 => ?_)
      refine xc_exit ?_
      refine xq_then_exit ?_
      refine xq_then_exit ?_
      refine xq_block_hit ?_
      refine xq_seq ?_
      refine xc_seq ?_
      refine xc_region ?_
      refine xo_rd (rd_assign rfl) rfl ?_
      refine xo_nil ?_
      refine xq_seq ?_
      refine xc_ret ?_
    rw [List.take_of_length_le (by omega)] at hno
    exact xq_ret1 (.inl rfl) Try.results66 rfl ⟨by rw [if_pos hno], rfl⟩
theorem xf_memberN {W : World} {L : List Blk} (p : Option Addr) (n c : Nat) : XF Try.prog W 66 #[.pointer none, .slice p n c] L (fun v L' => v = .int .i64 1 ∧ L' = L) := by
  refine xf_enter (args := [_, _]) Try.func66 rfl Try.ntmps66 rfl ?_
  focus
    refine xc_seq ?_
    refine xc_region ?_
    refine xo_rd (rd_assign rfl) rfl ?_
    refine xo_nil ?_
    refine xq_seq ?_
    refine xc_seq ?_
    refine xc_seq ?_
    refine xc_region ?_
    refine xo_rd (rd_move rfl) rfl ?_
    refine xo_rd (rd_eqnil rfl) rfl ?_
    refine xo_nil ?_
    refine xq_seq ?_
    refine xc_condt rfl ?_
    refine xc_seq ?_
    refine xc_region ?_
    refine xo_rd (rd_assign rfl) rfl ?_
    refine xo_nil ?_
    refine xq_seq ?_
    refine xc_ret ?_
    refine xq_then_ret ?_
  exact xq_ret1 (.inl rfl) Try.results66 rfl ⟨rfl, rfl⟩
theorem xf_holds {W : World} {L : List Blk} (r : Nat) (he : Bool) (who w : Int) (h8 : Cl W L r 8 (.bool he)) (h4 : Cl W L r 4 (.int .u32 who)) : XF Try.prog W 64 #[.pointer (some ⟨r, 0, none⟩), .int .u32 w] L (fun v L' => v = .bool (he && decide (who = w)) ∧ L' = L) := by
  refine xf_enter (args := [_, _]) Try.func64 rfl Try.ntmps64 rfl ?_
  cases he <;> skip
  · focus
      refine xc_seq ?_
      refine xc_region ?_
      refine xo_rd (rd_assign rfl) rfl ?_
      refine xo_nil ?_
      refine xq_seq ?_
      refine xc_seq ?_
      refine xc_region ?_
      refine xo_rd (rd_move rfl) rfl ?_
      refine xo_rd (rd_nilCheck rfl) rfl ?_
      refine xo_rd (rd_fieldAddr rfl) rfl ?_
      refine xo_rd (rd_fieldAddr rfl) rfl ?_
      refine xo_rd (rd_load1 rfl h8) rfl ?_
      refine xo_rd (rd_move rfl) rfl ?_
      refine xo_gskip rfl rfl rfl rfl ?_
      refine xo_gskip rfl rfl rfl rfl ?_
      refine xo_gskip rfl rfl rfl rfl ?_
      refine xo_gskip rfl rfl rfl rfl ?_
      refine xo_gskip rfl rfl rfl rfl ?_
      refine xo_gskip rfl rfl rfl rfl ?_
      refine xo_gskip rfl rfl rfl rfl ?_
      refine xo_gskip rfl rfl rfl rfl ?_
      refine xo_rd (rd_pickf rfl rfl) rfl ?_
      refine xo_rd (rd_assign rfl) rfl ?_
      refine xo_nil ?_
      refine xq_seq ?_
      refine xc_ret ?_
    exact xq_ret1 (.inl rfl) Try.results64 rfl ⟨rfl, rfl⟩
  · focus
      refine xc_seq ?_
      refine xc_region ?_
      refine xo_rd (rd_assign rfl) rfl ?_
      refine xo_nil ?_
      refine xq_seq ?_
      refine xc_seq ?_
      refine xc_region ?_
      refine xo_rd (rd_move rfl) rfl ?_
      refine xo_rd (rd_nilCheck rfl) rfl ?_
      refine xo_rd (rd_fieldAddr rfl) rfl ?_
      refine xo_rd (rd_fieldAddr rfl) rfl ?_
      refine xo_rd (rd_load1 rfl h8) rfl ?_
      refine xo_rd (rd_move rfl) rfl ?_
      refine xo_grd rfl rfl (rd_move rfl) rfl ?_
      refine xo_grd rfl rfl (rd_nilCheck rfl) rfl ?_
      refine xo_grd rfl rfl (rd_fieldAddr rfl) rfl ?_
      refine xo_grd rfl rfl (rd_fieldAddr rfl) rfl ?_
      refine xo_grd rfl rfl (rd_fieldAddr rfl) rfl ?_
      refine xo_grd rfl rfl (rd_load1 rfl h4) rfl ?_
      refine xo_grd rfl rfl (rd_move rfl) rfl ?_
      refine xo_grd rfl rfl (rd_eql rfl rfl) rfl ?_
      refine xo_rd (rd_pickt rfl rfl) rfl ?_
      refine xo_rd (rd_assign rfl) rfl ?_
      refine xo_nil ?_
      refine xq_seq ?_
      refine xc_ret ?_
    exact xq_ret1 (.inl rfl) Try.results64 rfl ⟨rfl, rfl⟩
set_option maxHeartbeats 800000 in
theorem xf_grant {W : World} {L : List Blk} (r : Nat) (x : Fm) (hx : x.Ok) (w now : Int) (hg : x.a.gs.length ≤ 1000000) : XF Try.prog W 68 #[.pointer (some ⟨r, 0, none⟩), .int .u32 w, .int .u64 now] (x.blks r L) (fun v L' => v = .tuple #[] ∧ ∃ y : Fm, y.Ok ∧ y.a = grantF x.a w now ∧ L' = y.blks r L) := by
  obtain ⟨⟨bound, sil, ms, held, no, who, at', heard, pend, wt, gs⟩, mb, mo, wp, wc, wl, gp, gc, gl⟩ := x
  obtain ⟨hmp, hw, hgs, hnd, hbd, hwb, hmn⟩ := hx
  dsimp only at hmp hw hgs hnd hbd hwb hmn hg
  unfold Fm.blks Fm.cells
  dsimp only
  refine xf_enter (args := [_, _, _]) Try.func68 rfl Try.ntmps68 rfl ?_
  focus
    refine xc_seq ?_
    refine xc_region ?_
    refine xo_rd (rd_move rfl) rfl ?_
    refine xo_rd (rd_nilCheck rfl) rfl ?_
    refine xo_rd (rd_fieldAddr rfl) rfl ?_
    refine xo_rd (rd_load1 rfl (Cl.o0 rfl)) rfl ?_
    refine xo_rd (rd_len rfl) rfl ?_
    refine xo_rd (rd_addn rfl rfl (by omega) (by omega)) rfl ?_
    refine xo_rd (rd_convn rfl (by omega) (by omega)) rfl ?_
    refine xo_rd (rd_move rfl) rfl ?_
    refine xo_rd (rd_move rfl) rfl ?_
    refine xo_rd (rd_cast (v' := .agg (gEnc ((gs.length : Int) + 1, w, now)).toArray) (rd_build (T := 39) rfl rfl rfl) (by kernel_rfl)) rfl ?_
    refine xo_ef rfl (ef_alloc fun r6 => ?_)
    refine xo_ef rfl (ef_storeB [] _ rfl rfl (by first | rfl | assumption) rfl rfl rfl ?_)
    refine xo_nil ?_
    refine xq_seq ?_
  focus
    refine xc_seq ?_
    refine xc_drawM [0, 0, 2, 4, 8, 0, 32, 80, 255, 511, 767] [0, 0, 2, 4, 8, 0, 32, 80, 255, 511, 767] [] (by kernel_rfl) (by kernel_rfl) (by kernel_rfl) ?_
    refine xm_take 0 (m' := 1) rfl (by kernel_rfl) (by first | exact Sb.refl | exact Sb.nil | (repeat (first | exact Sb.nil | exact Sb.refl | exact Sb.app0 | apply Sb.keep | apply Sb.keepApp | apply Sb.cons | apply Sb.app))) (rd_move rfl) rfl (by kernel_rfl) ?_
    refine xm_take 1 (m' := 3) rfl (by kernel_rfl) (by first | exact Sb.refl | exact Sb.nil | (repeat (first | exact Sb.nil | exact Sb.refl | exact Sb.app0 | apply Sb.keep | apply Sb.keepApp | apply Sb.cons | apply Sb.app))) (rd_move rfl) rfl (by kernel_rfl) ?_
    refine xm_take 2 (m' := 7) rfl (by kernel_rfl) (by first | exact Sb.refl | exact Sb.nil | (repeat (first | exact Sb.nil | exact Sb.refl | exact Sb.app0 | apply Sb.keep | apply Sb.keepApp | apply Sb.cons | apply Sb.app))) (rd_nilCheck rfl) rfl (by kernel_rfl) ?_
    refine xm_take 3 (m' := 15) rfl (by kernel_rfl) (by first | exact Sb.refl | exact Sb.nil | (repeat (first | exact Sb.nil | exact Sb.refl | exact Sb.app0 | apply Sb.keep | apply Sb.keepApp | apply Sb.cons | apply Sb.app))) (rd_fieldAddr rfl) rfl (by kernel_rfl) ?_
    refine xm_two 4 5 (mi := 31) (mk := 47) rfl rfl (by kernel_rfl) rfl rfl (by kernel_rfl) (by kernel_rfl) (ef_rd (rd_load1 rfl (Cl.o1 rfl)) ⟨(by first | exact Sb.refl | exact Sb.nil | (repeat (first | exact Sb.nil | exact Sb.refl | exact Sb.app0 | apply Sb.keep | apply Sb.keepApp | apply Sb.cons | apply Sb.app))), ?_⟩) (ef_rd (rd_loadB rfl Kn.o0 (by rfl)) ⟨(by first | exact Sb.refl | exact Sb.nil | (repeat (first | exact Sb.nil | exact Sb.refl | exact Sb.app0 | apply Sb.keep | apply Sb.keepApp | apply Sb.cons | apply Sb.app))), ?_⟩)
    refine xm_one 5 (m' := 63) rfl (by kernel_rfl) rfl (by kernel_rfl) (ef_rd (rd_loadB rfl Kn.o0 (by rfl)) ?_)
    refine ⟨(by first | exact Sb.refl | exact Sb.nil | (repeat (first | exact Sb.nil | exact Sb.refl | exact Sb.app0 | apply Sb.keep | apply Sb.keepApp | apply Sb.cons | apply Sb.app))), ?_⟩
    refine xm_one 6 (m' := 127) rfl (by kernel_rfl) rfl (by kernel_rfl) (ef_sliceA (vs := gEnc ((gs.length : Int) + 1, w, now)) rfl rfl (by rw [gEnc_len]; decide) (by rw [gEnc_len]; decide) fun r23 => ?_)
    refine ⟨(by first | exact Sb.refl | exact Sb.nil | (repeat (first | exact Sb.nil | exact Sb.refl | exact Sb.app0 | apply Sb.keep | apply Sb.keepApp | apply Sb.cons | apply Sb.app))), ?_⟩
    refine xm_one 7 (m' := 255) rfl (by kernel_rfl) rfl (by kernel_rfl) (ef_appendQS (_ :: _ :: _ :: _ :: wl) L gl (news := gEnc ((gs.length : Int) + 1, w, now)) rfl rfl hgs rfl (Rs.fresh (List.Mem.head _)) rfl rfl (by decide) (by omega) (by omega) fun gp2 gc2 gl2 hO2 hk2 => ?_)
    refine ⟨(by first | exact Sb.refl | exact Sb.nil | (repeat (first | exact Sb.nil | exact Sb.refl | exact Sb.app0 | apply Sb.keep | apply Sb.keepApp | apply Sb.cons | apply Sb.app))), ?_⟩
    refine xm_take 8 (m' := 511) rfl (by kernel_rfl) (by first | exact Sb.refl | exact Sb.nil | (repeat (first | exact Sb.nil | exact Sb.refl | exact Sb.app0 | apply Sb.keep | apply Sb.keepApp | apply Sb.cons | apply Sb.app))) (rd_nilCheck rfl) rfl (by kernel_rfl) ?_
    refine xm_take 9 (m' := 1023) rfl (by kernel_rfl) (by first | exact Sb.refl | exact Sb.nil | (repeat (first | exact Sb.nil | exact Sb.refl | exact Sb.app0 | apply Sb.keep | apply Sb.keepApp | apply Sb.cons | apply Sb.app))) (rd_fieldAddr rfl) rfl (by kernel_rfl) ?_
    refine xm_one 10 (m' := 2047) rfl (by kernel_rfl) rfl (by kernel_rfl) (ef_store1 [_, _] _ rfl rfl (by first | rfl | assumption) rfl rfl rfl ?_)
    refine ⟨(by first | exact Sb.refl | exact Sb.nil | (repeat (first | exact Sb.nil | exact Sb.refl | exact Sb.app0 | apply Sb.keep | apply Sb.keepApp | apply Sb.cons | apply Sb.app))), ?_⟩
    refine xm_done (by kernel_rfl) ?_
    refine xq_seq ?_
    refine xc_region ?_
    refine xo_rd (rd_move rfl) rfl ?_
    refine xo_rd (rd_loadB rfl Kn.o1 (by rfl)) rfl ?_
    refine xo_rd (rd_move rfl) rfl ?_
    refine xo_rd (rd_cast (v' := .agg (hEnc ((gs.length : Int) + 1) w now now true true).toArray) (rd_build (T := 95) rfl rfl rfl) (by kernel_rfl)) rfl ?_
    refine xo_rd (rd_nilCheck rfl) rfl ?_
    refine xo_rd (rd_fieldAddr rfl) rfl ?_
    refine xo_ef rfl (ef_storeW [_, _] _ 3 (vs := hEnc ((gs.length : Int) + 1) w now now true true) (cs := (fcl bound sil mb no who at' heard pend held wp wt.length wc gp gs.length gc).set (0 + 10) (.slice gp2 (gs.length + 1) gc2)) (ws := fcl bound sil mb ((gs.length : Int) + 1) w now now true true wp wt.length wc gp2 (gs.length + 1) gc2) rfl rfl rfl rfl rfl (by rw [List.length_set, fcl_len, hEnc_len]; decide) (by kernel_rfl) ?_)
    refine xo_nil ?_
    rotate_left
    refine xm_two 4 6 (mi := 63) (mk := 111) rfl rfl (by kernel_rfl) rfl rfl (by kernel_rfl) (by kernel_rfl) (ef_rd (rd_load1 rfl (Cl.o1 rfl)) ⟨(by first | exact Sb.refl | exact Sb.nil | (repeat (first | exact Sb.nil | exact Sb.refl | exact Sb.app0 | apply Sb.keep | apply Sb.keepApp | apply Sb.cons | apply Sb.app))), ?_⟩) (ef_sliceA (vs := gEnc ((gs.length : Int) + 1, w, now)) rfl rfl (by rw [gEnc_len]; decide) (by rw [gEnc_len]; decide) fun r23 => ⟨(by first | exact Sb.refl | exact Sb.nil | (repeat (first | exact Sb.nil | exact Sb.refl | exact Sb.app0 | apply Sb.keep | apply Sb.keepApp | apply Sb.cons | apply Sb.app))), ?_⟩)
    refine xm_one 6 (m' := 127) rfl (by kernel_rfl) rfl (by kernel_rfl) (ef_sliceA (vs := gEnc ((gs.length : Int) + 1, w, now)) rfl rfl (by rw [gEnc_len]; decide) (by rw [gEnc_len]; decide) fun r23 => ?_)
    refine ⟨(by first | exact Sb.refl | exact Sb.nil | (repeat (first | exact Sb.nil | exact Sb.refl | exact Sb.app0 | apply Sb.keep | apply Sb.keepApp | apply Sb.cons | apply Sb.app))), ?_⟩
    refine xm_one 7 (m' := 255) rfl (by kernel_rfl) rfl (by kernel_rfl) (ef_appendQS (_ :: _ :: _ :: _ :: wl) L gl (news := gEnc ((gs.length : Int) + 1, w, now)) rfl rfl hgs rfl (Rs.fresh (List.Mem.head _)) rfl rfl (by decide) (by omega) (by omega) fun gp2 gc2 gl2 hO2 hk2 => ?_)
    refine ⟨(by first | exact Sb.refl | exact Sb.nil | (repeat (first | exact Sb.nil | exact Sb.refl | exact Sb.app0 | apply Sb.keep | apply Sb.keepApp | apply Sb.cons | apply Sb.app))), ?_⟩
    refine xm_take 8 (m' := 511) rfl (by kernel_rfl) (by first | exact Sb.refl | exact Sb.nil | (repeat (first | exact Sb.nil | exact Sb.refl | exact Sb.app0 | apply Sb.keep | apply Sb.keepApp | apply Sb.cons | apply Sb.app))) (rd_nilCheck rfl) rfl (by kernel_rfl) ?_
    refine xm_take 9 (m' := 1023) rfl (by kernel_rfl) (by first | exact Sb.refl | exact Sb.nil | (repeat (first | exact Sb.nil | exact Sb.refl | exact Sb.app0 | apply Sb.keep | apply Sb.keepApp | apply Sb.cons | apply Sb.app))) (rd_fieldAddr rfl) rfl (by kernel_rfl) ?_
    refine xm_one 10 (m' := 2047) rfl (by kernel_rfl) rfl (by kernel_rfl) (ef_store1 [_, _] _ rfl rfl (by first | rfl | assumption) rfl rfl rfl ?_)
    refine ⟨(by first | exact Sb.refl | exact Sb.nil | (repeat (first | exact Sb.nil | exact Sb.refl | exact Sb.app0 | apply Sb.keep | apply Sb.keepApp | apply Sb.cons | apply Sb.app))), ?_⟩
    refine xm_done (by kernel_rfl) ?_
    refine xq_seq ?_
    refine xc_region ?_
    refine xo_rd (rd_move rfl) rfl ?_
    refine xo_rd (rd_loadB rfl Kn.o1 (by rfl)) rfl ?_
    refine xo_rd (rd_move rfl) rfl ?_
    refine xo_rd (rd_cast (v' := .agg (hEnc ((gs.length : Int) + 1) w now now true true).toArray) (rd_build (T := 95) rfl rfl rfl) (by kernel_rfl)) rfl ?_
    refine xo_rd (rd_nilCheck rfl) rfl ?_
    refine xo_rd (rd_fieldAddr rfl) rfl ?_
    refine xo_ef rfl (ef_storeW [_, _] _ 3 (vs := hEnc ((gs.length : Int) + 1) w now now true true) (cs := (fcl bound sil mb no who at' heard pend held wp wt.length wc gp gs.length gc).set (0 + 10) (.slice gp2 (gs.length + 1) gc2)) (ws := fcl bound sil mb ((gs.length : Int) + 1) w now now true true wp wt.length wc gp2 (gs.length + 1) gc2) rfl rfl rfl rfl rfl (by rw [List.length_set, fcl_len, hEnc_len]; decide) (by kernel_rfl) ?_)
    refine xo_nil ?_
    rotate_left
    refine xm_one 4 (m' := 127) rfl (by kernel_rfl) rfl (by kernel_rfl) (ef_rd (rd_load1 rfl (Cl.o2 rfl)) ?_)
    refine ⟨(by first | exact Sb.refl | exact Sb.nil | (repeat (first | exact Sb.nil | exact Sb.refl | exact Sb.app0 | apply Sb.keep | apply Sb.keepApp | apply Sb.cons | apply Sb.app))), ?_⟩
    refine xm_one 7 (m' := 255) rfl (by kernel_rfl) rfl (by kernel_rfl) (ef_appendQS (_ :: _ :: _ :: _ :: wl) L gl (news := gEnc ((gs.length : Int) + 1, w, now)) rfl rfl hgs rfl (Rs.fresh (List.Mem.head _)) rfl rfl (by decide) (by omega) (by omega) fun gp2 gc2 gl2 hO2 hk2 => ?_)
    refine ⟨(by first | exact Sb.refl | exact Sb.nil | (repeat (first | exact Sb.nil | exact Sb.refl | exact Sb.app0 | apply Sb.keep | apply Sb.keepApp | apply Sb.cons | apply Sb.app))), ?_⟩
    refine xm_take 8 (m' := 511) rfl (by kernel_rfl) (by first | exact Sb.refl | exact Sb.nil | (repeat (first | exact Sb.nil | exact Sb.refl | exact Sb.app0 | apply Sb.keep | apply Sb.keepApp | apply Sb.cons | apply Sb.app))) (rd_nilCheck rfl) rfl (by kernel_rfl) ?_
    refine xm_take 9 (m' := 1023) rfl (by kernel_rfl) (by first | exact Sb.refl | exact Sb.nil | (repeat (first | exact Sb.nil | exact Sb.refl | exact Sb.app0 | apply Sb.keep | apply Sb.keepApp | apply Sb.cons | apply Sb.app))) (rd_fieldAddr rfl) rfl (by kernel_rfl) ?_
    refine xm_one 10 (m' := 2047) rfl (by kernel_rfl) rfl (by kernel_rfl) (ef_store1 [_, _] _ rfl rfl (by first | rfl | assumption) rfl rfl rfl ?_)
    refine ⟨(by first | exact Sb.refl | exact Sb.nil | (repeat (first | exact Sb.nil | exact Sb.refl | exact Sb.app0 | apply Sb.keep | apply Sb.keepApp | apply Sb.cons | apply Sb.app))), ?_⟩
    refine xm_done (by kernel_rfl) ?_
    refine xq_seq ?_
    refine xc_region ?_
    refine xo_rd (rd_move rfl) rfl ?_
    refine xo_rd (rd_loadB rfl Kn.o1 (by rfl)) rfl ?_
    refine xo_rd (rd_move rfl) rfl ?_
    refine xo_rd (rd_cast (v' := .agg (hEnc ((gs.length : Int) + 1) w now now true true).toArray) (rd_build (T := 95) rfl rfl rfl) (by kernel_rfl)) rfl ?_
    refine xo_rd (rd_nilCheck rfl) rfl ?_
    refine xo_rd (rd_fieldAddr rfl) rfl ?_
    refine xo_ef rfl (ef_storeW [_, _] _ 3 (vs := hEnc ((gs.length : Int) + 1) w now now true true) (cs := (fcl bound sil mb no who at' heard pend held wp wt.length wc gp gs.length gc).set (0 + 10) (.slice gp2 (gs.length + 1) gc2)) (ws := fcl bound sil mb ((gs.length : Int) + 1) w now now true true wp wt.length wc gp2 (gs.length + 1) gc2) rfl rfl rfl rfl rfl (by rw [List.length_set, fcl_len, hEnc_len]; decide) (by kernel_rfl) ?_)
    refine xo_nil ?_
    rotate_left
  all_goals
    have hy : (Fm.mk (grantF ⟨bound, sil, ms, held, no, who, at', heard, pend, wt, gs⟩ w now) mb mo wp wc wl gp2 gc2 gl2).Ok := ⟨hmp, hw, by dsimp only [grantF]; rw [List.length_append, List.flatMap_append, List.flatMap_singleton]; exact hO2, hnd, hbd, hwb, hmn⟩
    exact xq_sub (List.sublist_append_right [_, _] _) (xq_ret0 (.inr rfl) Try.results68 ⟨rfl, _, hy, rfl, by simp only [Fm.blks, Fm.cells, grantF, List.length_append, List.length_singleton]; rfl⟩)
set_option maxHeartbeats 800000 in
theorem xf_end {W : World} {L : List Blk} (r : Nat) (x : Fm) (hx : x.Ok) (now : Int) (hg : x.a.gs.length ≤ 1000000) : XF Try.prog W 65 #[.pointer (some ⟨r, 0, none⟩), .int .u64 now] (x.blks r L) (fun v L' => v = .tuple #[] ∧ ∃ y : Fm, y.Ok ∧ y.a = endF x.a now ∧ L' = y.blks r L) := by
  obtain ⟨⟨bound, sil, ms, held, no, who, at', heard, pend, wt, gs⟩, mb, mo, wp, wc, wl, gp, gc, gl⟩ := x
  obtain ⟨hmp, hw, hgs, hnd, hbd, hwb, hmn⟩ := hx
  dsimp only at hmp hw hgs hnd hbd hwb hmn hg
  unfold Fm.blks Fm.cells
  dsimp only
  refine xf_enter (args := [_, _]) Try.func65 rfl Try.ntmps65 rfl ?_
  cases wt with
  | nil =>
    have h0 : ([] : List Int).length = 0 := rfl
    focus
      refine xc_seq ?_
      refine xc_region ?_
      refine xo_rd (rd_move rfl) rfl ?_
      refine xo_rd (rd_cast (v' := .agg (hEnc 0 0 0 0 false false).toArray) (rd_build (T := 95) rfl rfl rfl) (by kernel_rfl)) rfl ?_
      refine xo_rd (rd_nilCheck rfl) rfl ?_
      refine xo_rd (rd_fieldAddr rfl) rfl ?_
      refine xo_ef rfl (ef_storeW [] _ 3 (vs := hEnc 0 0 0 0 false false) (cs := fcl bound sil mb no who at' heard pend held wp ([] : List Int).length wc gp gs.length gc) (ws := fcl bound sil mb 0 0 0 0 false false wp ([] : List Int).length wc gp gs.length gc) rfl rfl rfl rfl rfl (by rw [fcl_len, hEnc_len]; decide) (by kernel_rfl) ?_)
      refine xo_nil ?_
      refine xq_seq ?_
      refine xc_seq ?_
      refine xc_region ?_
      refine xo_rd (rd_move rfl) rfl ?_
      refine xo_rd (rd_nilCheck rfl) rfl ?_
      refine xo_rd (rd_fieldAddr rfl) rfl ?_
      refine xo_rd (rd_load1 rfl (Cl.o0 rfl)) rfl ?_
      refine xo_rd (rd_len rfl) rfl ?_
      refine xo_rd (rd_gtr rfl rfl) rfl ?_
      refine xo_nil ?_
      refine xq_seq ?_
      refine xc_condf rfl ?_
      refine xc_skip ?_
    exact xq_ret0 (.inr rfl) Try.results65 ⟨rfl, ⟨freeF ⟨bound, sil, ms, held, no, who, at', heard, pend, [], gs⟩ [], mb, mo, wp, wc, wl, gp, gc, gl⟩, ⟨hmp, hw, hgs, hnd, hbd, hwb, hmn⟩, rfl, rfl⟩
  | cons w wt =>
    obtain ⟨b, o, hpb, hcb⟩ := (hw.rs (W := W) (L := (r, Obj.cells (fcl bound sil mb 0 0 0 0 false false wp (w :: wt).length wc gp gs.length gc).toArray 98 (0, 0)) :: (mb, mo) :: (wl ++ (gl ++ L))) (by intro z hz; simp [hz])).int (i := 0) (Nat.succ_pos _)
    have hcut := hw.cut 1 (by rw [List.length_cons]; omega)
    rw [List.getElem_cons_zero] at hcb
    have h0 : 0 < (w :: wt).length := Nat.succ_pos _
    have e1 : (w :: wt).length - 1 = wt.length := rfl
    rw [List.length_cons] at hwb
    subst hpb
    have hgr := fun wp' (wc' : Nat) (hw2 : SlQ 1 32 (.slice wp' wt.length wc') wt.length (ints .u32 wt) wl) => xf_grant (W := W) (L := L) r ⟨freeF ⟨bound, sil, ms, held, no, who, at', heard, pend, w :: wt, gs⟩ wt, mb, mo, wp', wc', wl, gp, gc, gl⟩ ⟨hmp, hw2, hgs, hnd, hbd, by dsimp only [freeF]; omega, hmn⟩ w now hg
    focus
      refine xc_seq ?_
      refine xc_region ?_
      refine xo_rd (rd_move rfl) rfl ?_
      refine xo_rd (rd_cast (v' := .agg (hEnc 0 0 0 0 false false).toArray) (rd_build (T := 95) rfl rfl rfl) (by kernel_rfl)) rfl ?_
      refine xo_rd (rd_nilCheck rfl) rfl ?_
      refine xo_rd (rd_fieldAddr rfl) rfl ?_
      refine xo_ef rfl (ef_storeW [] _ 3 (vs := hEnc 0 0 0 0 false false) (cs := fcl bound sil mb no who at' heard pend held (some ⟨b, o, none⟩) (w :: wt).length wc gp gs.length gc) (ws := fcl bound sil mb 0 0 0 0 false false (some ⟨b, o, none⟩) (w :: wt).length wc gp gs.length gc) rfl rfl rfl rfl rfl (by rw [fcl_len, hEnc_len]; decide) (by kernel_rfl) ?_)
      refine xo_nil ?_
      refine xq_seq ?_
      refine xc_seq ?_
      refine xc_region ?_
      refine xo_rd (rd_move rfl) rfl ?_
      refine xo_rd (rd_nilCheck rfl) rfl ?_
      refine xo_rd (rd_fieldAddr rfl) rfl ?_
      refine xo_rd (rd_load1 rfl (Cl.o0 rfl)) rfl ?_
      refine xo_rd (rd_len rfl) rfl ?_
      refine xo_rd (rd_gtr rfl rfl) rfl ?_
      refine xo_nil ?_
      refine xq_seq ?_
      refine xc_dec rfl (fun h1 => ?_) (fun h1 => (by exfalso; omega))
      refine xc_seq ?_
      refine xc_region ?_
      refine xo_rd (rd_move rfl) rfl ?_
      refine xo_rd (rd_nilCheck rfl) rfl ?_
      refine xo_rd (rd_fieldAddr rfl) rfl ?_
      refine xo_rd (rd_load1 rfl (Cl.o0 rfl)) rfl ?_
      refine xo_rd (rd_indexAddr rfl rfl (by decide) (by show (0 : Int) < ((wt.length + 1 : Nat) : Int); omega)) rfl ?_
      refine xo_rd (rd_load1 rfl hcb) rfl ?_
      refine xo_rd (rd_assign rfl) rfl ?_
      refine xo_nil ?_
      refine xq_seq ?_
      refine xc_seq ?_
      refine xc_region ?_
      refine xo_rd (rd_move rfl) rfl ?_
      refine xo_rd (rd_move rfl) rfl ?_
      refine xo_rd (rd_nilCheck rfl) rfl ?_
      refine xo_rd (rd_fieldAddr rfl) rfl ?_
      refine xo_rd (rd_load1 rfl (Cl.o0 rfl)) rfl ?_
      refine xo_rd (rd_cast (v' := .slice (slp (some ⟨b, o, none⟩) wc 1 1) wt.length (wc - 1)) (rd_slLo rfl rfl (by decide) (by rw [List.length_cons]; omega)) rfl) rfl ?_
      refine xo_rd (rd_nilCheck rfl) rfl ?_
      refine xo_rd (rd_fieldAddr rfl) rfl ?_
      refine xo_ef rfl (ef_store1 [] _ rfl rfl (by first | rfl | assumption) rfl rfl rfl ?_)
      refine xo_nil ?_
      refine xq_seq ?_
      refine xc_region ?_
      refine xo_rd (rd_move rfl) rfl ?_
      refine xo_rd (rd_move rfl) rfl ?_
      refine xo_rd (rd_move rfl) rfl ?_
      refine xo_ef rfl (ef_call rfl (XF.mono (hgr _ _ hcut) ?_))
      rintro v L' ⟨rfl, y, hy, hya, rfl⟩
      refine xo_nil ?_
    exact xq_ret0 (.inr rfl) Try.results65 ⟨rfl, y, hy, hya, rfl⟩
end Go.Proofs.Ytmdeajdaeihniaa.X
/-
  Chapter 13: what may be asked of a floor: walks of my own.
-/
namespace Go.Proofs.Ytmdeajdaeihniaa.X
open Go Go.RowKit
set_option linter.unusedVariables false
set_option linter.unusedSimpArgs false
theorem xf_mem {W : World} {L : List Blk} (r : Nat) (x : Fm) (hx : x.Ok) (hfr : FR W L r x) (p : Option Addr) (n c : Nat) (ws : List Int) (hn : ws.length = n) (hr : Rs W L p (ints .u32 ws)) (hs : n ≤ 1000000) (b : Bool) (hb : (ws.all fun w => isM x.a.ms w) = b) :
    XF Try.prog W 66 #[.pointer (some ⟨r, 0, none⟩), .slice p n c] L (fun v L' => v = .int .i64 (if b = true then 0 else 130) ∧ L' = L) := by
  subst hb
  exact xf_member r x.mb x.mo x.a.ms (hfr.cl 2 _ rfl) hfr.kn hx.mp p n c ws hn hr hs
theorem xf_hol {W : World} {L : List Blk} (r : Nat) (x : Fm) (hfr : FR W L r x) (w : Int) (b : Bool) (hb : holdsA x.a w = b) : XF Try.prog W 64 #[.pointer (some ⟨r, 0, none⟩), .int .u32 w] L (fun v L' => v = .bool b ∧ L' = L) := by
  subst hb
  exact xf_holds r _ _ w (hfr.cl 8 _ rfl) (hfr.cl 4 _ rfl)
theorem MpIs.cong {k : IntKind} {o : Obj} {f g : Int → Option Value} {s t : Nat} (h : MpIs k o f s) (hf : ∀ z, f z = g z) (hs : s = t) : MpIs k o g t := by
  obtain rfl : f = g := funext hf
  subst hs
  exact h
theorem mupd_twice {f : Int → Option Value} {n : Int} {u v : Option Value} (z : Int) : mupd (mupd f n u) n v z = mupd f n v z := by
  unfold mupd; split <;> rfl
theorem perm_f3 {a b c : Blk} (l R : List Blk) : (a :: b :: c :: (l ++ R)).Perm (l ++ (a :: b :: c :: R)) := (by classical exact List.perm_iff_count.2 fun a => by simp only [List.append_eq, List.count_append, List.count_cons, List.count_nil, List.cons_append, List.nil_append, List.flatMap_append, List.flatMap_cons, List.flatMap_nil, List.append_nil]; omega)
theorem perm_f4 {a b c d : Blk} (l R : List Blk) : (a :: b :: c :: d :: (l ++ R)).Perm (l ++ (a :: b :: c :: d :: R)) := (by classical exact List.perm_iff_count.2 fun a => by simp only [List.append_eq, List.count_append, List.count_cons, List.count_nil, List.cons_append, List.nil_append, List.flatMap_append, List.flatMap_cons, List.flatMap_nil, List.append_nil]; omega)
theorem rs_one {W : World} {L : List Blk} {r : Nat} {k : IntKind} {T : TypeId} {ws : List Int} (h : (r, Obj.cells (ints k ws).toArray T (0, 0)) ∈ L) : Rs W L (some ⟨r, 0, none⟩) (ints k ws) := Rs.fresh h
set_option maxHeartbeats 800000 in
theorem xf_Join {W : World} {L : List Blk} (r : Nat) (x : Fm) (hx : x.Ok) (w : Int) (m : Bool) : XF Try.prog W 54 #[.pointer (some ⟨r, 0, none⟩), .int .u32 w, .bool m] (x.blks r L) (fun v L' => v = .int .i64 (joinE x.a w) ∧ ∃ y : Fm, y.Ok ∧ y.a = joinF x.a w m ∧ L' = y.blks r L) := by
  have hfr : ∀ L', (∀ z, z ∈ (r, Obj.cells x.cells.toArray 98 (0, 0)) :: (x.mb, x.mo) :: (x.wl ++ x.gl) → z ∈ L') → FR W L' r x := fun L' h => hx.fr h
  have hfr2 := hfr (x.blks r L) (fun z hz => by unfold Fm.blks; rw [← List.append_assoc]; exact List.mem_append_left L hz)
  obtain ⟨b, hb⟩ : ∃ b, isM x.a.ms w = b := ⟨_, rfl⟩
  have hmem := fun L' (h : ∀ z, z ∈ x.blks r L → z ∈ L') p (hr : Rs W L' p (ints .u32 [w])) => xf_mem (W := W) (L := L') r x hx (hfr2.mono h) p 1 1 [w] rfl hr (by decide) b (by simpa using hb)
  obtain ⟨⟨bound, sil, ms, held, no, who, at', heard, pend, wt, gs⟩, mb, mo, wp, wc, wl, gp, gc, gl⟩ := x
  have hx' := hx
  obtain ⟨hmp, hw, hgs, hnd, hbd, hwb, hmn⟩ := hx
  dsimp only at hmp hw hgs hnd hbd hwb hmn hb
  unfold Fm.blks Fm.cells at hmem ⊢
  dsimp only at hmem ⊢
  refine xf_enter (args := [_, _, _]) Try.func54 rfl Try.ntmps54 rfl ?_
  cases b with
  | true =>
    focus
      refine xc_seq ?_
      refine xc_region ?_
      refine xo_rd (rd_assign rfl) rfl ?_
      refine xo_nil ?_
      refine xq_seq ?_
      refine xc_seq ?_
      refine xc_seq ?_
      refine xc_region ?_
      refine xo_rd (rd_move rfl) rfl ?_
      refine xo_rd (rd_move rfl) rfl ?_
      refine xo_ef rfl (ef_buildL (T := 75) (len := 1) (s := 1) (cells := (ints .u32 [w]).toArray) rfl (by decide) (by decide) (by kernel_rfl) fun r10 => ?_)
      refine xo_ef rfl (ef_call rfl (XF.mono (hmem _ (by intro z hz; simp [hz]) _ (rs_one (List.Mem.head _))) ?_))
      rintro v L' ⟨rfl, rfl⟩
      refine xo_rd (rd_assign rfl) rfl ?_
      refine xo_nil ?_
      refine xq_seq ?_
      refine xc_block ?_
      refine xc_seq ?_
      refine xc_region ?_
      refine xo_rd (rd_move rfl) rfl ?_
      refine xo_rd (rd_eql rfl rfl) rfl ?_
      refine xo_rd (rd_assign rfl) rfl ?_
      refine xo_nil ?_
      refine xq_seq ?_
      refine xc_condf rfl ?_
      refine xc_seq ?_
      refine xc_region ?_
      refine xo_rd (rd_move rfl) rfl ?_
      refine xo_rd (rd_eql rfl rfl) rfl ?_
      refine xo_rd (rd_assign rfl) rfl ?_
      refine xo_nil ?_
      refine xq_seq ?_
      refine xc_condt rfl ?_
      refine xc_seq ?_
      refine xc_region ?_
      refine xo_rd (rd_assign rfl) rfl ?_
      refine xo_nil ?_
      refine xq_seq ?_
      refine xc_ret ?_
      refine xq_block_ret ?_
      refine xq_then_ret ?_
    refine xq_sub (List.sublist_cons_self _ _) (xq_ret1 (.inl rfl) Try.results54 rfl ⟨by rw [show joinE _ w = 132 from by unfold joinE; dsimp only; rw [hb]; rfl], _, hx', by rw [joinF, show joinE _ w = 132 from by unfold joinE; dsimp only; rw [hb]; rfl]; rfl, rfl⟩)
  | false =>
    have hmpl : (roleV ms w).isSome = false := by rw [isM_find, hb]
    focus
      refine xc_seq ?_
      refine xc_region ?_
      refine xo_rd (rd_assign rfl) rfl ?_
      refine xo_nil ?_
      refine xq_seq ?_
      refine xc_seq ?_
      refine xc_seq ?_
      refine xc_region ?_
      refine xo_rd (rd_move rfl) rfl ?_
      refine xo_rd (rd_move rfl) rfl ?_
      refine xo_ef rfl (ef_buildL (T := 75) (len := 1) (s := 1) (cells := (ints .u32 [w]).toArray) rfl (by decide) (by decide) (by kernel_rfl) fun r10 => ?_)
      refine xo_ef rfl (ef_call rfl (XF.mono (hmem _ (by intro z hz; simp [hz]) _ (rs_one (List.Mem.head _))) ?_))
      rintro v L' ⟨rfl, rfl⟩
      refine xo_rd (rd_assign rfl) rfl ?_
      refine xo_nil ?_
      refine xq_seq ?_
      refine xc_block ?_
      refine xc_seq ?_
      refine xc_region ?_
      refine xo_rd (rd_move rfl) rfl ?_
      refine xo_rd (rd_eql rfl rfl) rfl ?_
      refine xo_rd (rd_assign rfl) rfl ?_
      refine xo_nil ?_
      refine xq_seq ?_
      refine xc_condf rfl ?_
      refine xc_seq ?_
      refine xc_region ?_
      refine xo_rd (rd_move rfl) rfl ?_
      refine xo_rd (rd_eql rfl rfl) rfl ?_
      refine xo_rd (rd_assign rfl) rfl ?_
      refine xo_nil ?_
      refine xq_seq ?_
      refine xc_condf rfl ?_
      refine xc_seq ?_
      refine xc_region ?_
      refine xo_rd (rd_move rfl) rfl ?_
      refine xo_rd (rd_nilCheck rfl) rfl ?_
      refine xo_rd (rd_fieldAddr rfl) rfl ?_
      refine xo_rd (rd_load1 rfl (Cl.o1 rfl)) rfl ?_
      refine xo_rd (rd_lenMap hmp rfl (.inr (by simp))) rfl ?_
      refine xo_rd (rd_geq rfl rfl) rfl ?_
      refine xo_rd (rd_assign rfl) rfl ?_
      refine xo_nil ?_
      refine xq_seq ?_
      refine xc_dec rfl (fun hz1 => ?_) (fun hz1 => ?_)
      refine xc_seq ?_
      refine xc_region ?_
      refine xo_rd (rd_assign rfl) rfl ?_
      refine xo_nil ?_
      refine xq_seq ?_
      refine xc_ret ?_
      refine xq_block_ret ?_
      refine xq_then_ret ?_
      rotate_left
      refine xc_skip ?_
      refine xq_block ?_
      refine xq_seq ?_
      refine xc_seq ?_
      refine xc_region ?_
      refine xo_rd (rd_move rfl) rfl ?_
      refine xo_rd (rd_nilCheck rfl) rfl ?_
      refine xo_rd (rd_fieldAddr rfl) rfl ?_
      refine xo_rd (rd_load1 rfl (Cl.o1 rfl)) rfl ?_
      refine xo_rd (rd_move rfl) rfl ?_
      refine xo_ef rfl (ef_mapUpdate [_, _] _ hmp rfl rfl rfl rfl fun mo2 hmp2 => ?_)
      refine xo_nil ?_
      refine xq_seq ?_
      refine xc_seq ?_
      refine xc_seq ?_
      refine xc_region ?_
      refine xo_rd (rd_move rfl) rfl ?_
      refine xo_nil ?_
      refine xq_seq ?_
      refine xc_cond rfl (fun hz2 => ?_) (fun hz2 => ?_)
      refine xc_region ?_
      refine xo_rd (rd_move rfl) rfl ?_
      refine xo_rd (rd_nilCheck rfl) rfl ?_
      refine xo_rd (rd_fieldAddr rfl) rfl ?_
      refine xo_rd (rd_load1 rfl (Cl.o1 rfl)) rfl ?_
      refine xo_rd (rd_move rfl) rfl ?_
      refine xo_ef rfl (ef_mapUpdate [_, _] _ hmp2 rfl rfl rfl rfl fun mo3 hmp3 => ?_)
      refine xo_nil ?_
      refine xq_seq ?_
      refine xc_seq ?_
      refine xc_region ?_
      refine xo_rd (rd_assign rfl) rfl ?_
      refine xo_nil ?_
      refine xq_seq ?_
      refine xc_ret ?_
      rotate_left
      refine xc_skip ?_
      refine xq_seq ?_
      refine xc_seq ?_
      refine xc_region ?_
      refine xo_rd (rd_assign rfl) rfl ?_
      refine xo_nil ?_
      refine xq_seq ?_
      refine xc_ret ?_
      rotate_left
    · have hE : joinE ⟨bound, sil, ms, held, no, who, at', heard, pend, wt, gs⟩ w = 131 := by unfold joinE; dsimp only; rw [hb, if_neg (by decide), if_pos (by omega)]
      exact xq_sub (List.sublist_cons_self _ _) (xq_ret1 (.inl rfl) Try.results54 rfl ⟨by rw [hE], _, hx', by rw [joinF, hE]; rfl, rfl⟩)
    · obtain rfl : m = true := by assumption
      have hE : joinE ⟨bound, sil, ms, held, no, who, at', heard, pend, wt, gs⟩ w = 0 := by unfold joinE; dsimp only; rw [hb, if_neg (by decide), if_neg (by omega)]
      have h2 : MpIs .u32 mo3 (roleV (insM w true ms)) (insM w true ms).length := hmp3.cong (fun z => by rw [mupd_twice, roleV_ins hb]; rfl) (by rw [hmpl, insM_len]; simp [mupd])
      have hy : (Fm.mk ⟨bound, sil, insM w true ms, held, no, who, at', heard, pend, wt, gs⟩ mb mo3 wp wc wl gp gc gl).Ok := ⟨h2, hw, hgs, insM_nodup hnd hb, hbd, hwb, by dsimp only; rw [insM_len]; omega⟩
      exact xq_sub (List.sublist_cons_self _ _) (xq_ret1 (.inl rfl) Try.results54 rfl ⟨by rw [hE], _, hy, by rw [joinF, hE]; rfl, rfl⟩)
    · obtain rfl : m = false := by assumption
      have hE : joinE ⟨bound, sil, ms, held, no, who, at', heard, pend, wt, gs⟩ w = 0 := by unfold joinE; dsimp only; rw [hb, if_neg (by decide), if_neg (by omega)]
      have h2 : MpIs .u32 mo2 (roleV (insM w false ms)) (insM w false ms).length := hmp2.cong (fun z => by rw [roleV_ins hb]; rfl) (by rw [hmpl, insM_len]; simp)
      have hy : (Fm.mk ⟨bound, sil, insM w false ms, held, no, who, at', heard, pend, wt, gs⟩ mb mo2 wp wc wl gp gc gl).Ok := ⟨h2, hw, hgs, insM_nodup hnd hb, hbd, hwb, by dsimp only; rw [insM_len]; omega⟩
      exact xq_sub (List.sublist_cons_self _ _) (xq_ret1 (.inl rfl) Try.results54 rfl ⟨by rw [hE], _, hy, by rw [joinF, hE]; rfl, rfl⟩)
set_option maxHeartbeats 800000 in
theorem xf_Leave {W : World} {L : List Blk} (r : Nat) (x : Fm) (hx : x.Ok) (w now : Int) (hg : x.a.gs.length ≤ 1000000) : XF Try.prog W 49 #[.pointer (some ⟨r, 0, none⟩), .int .u32 w, .int .u64 now] (x.blks r L) (fun v L' => v = .int .i64 (leaveE x.a w) ∧ ∃ y : Fm, y.Ok ∧ y.a = leaveF x.a w now ∧ L' = y.blks r L) := by
  have hfr : ∀ L', (∀ z, z ∈ (r, Obj.cells x.cells.toArray 98 (0, 0)) :: (x.mb, x.mo) :: (x.wl ++ x.gl) → z ∈ L') → FR W L' r x := fun L' h => hx.fr h
  have hfr2 := hfr (x.blks r L) (fun z hz => by unfold Fm.blks; rw [← List.append_assoc]; exact List.mem_append_left L hz)
  obtain ⟨b, hb⟩ : ∃ b, isM x.a.ms w = b := ⟨_, rfl⟩
  have hmem := fun L' (h : ∀ z, z ∈ x.blks r L → z ∈ L') p (hr : Rs W L' p (ints .u32 [w])) => xf_mem (W := W) (L := L') r x hx (hfr2.mono h) p 1 1 [w] rfl hr (by decide) b (by simpa using hb)
  obtain ⟨⟨bound, sil, ms, held, no, who, at', heard, pend, wt, gs⟩, mb, mo, wp, wc, wl, gp, gc, gl⟩ := x
  have hx' := hx
  obtain ⟨hmp, hw, hgs, hnd, hbd, hwb, hmn⟩ := hx
  dsimp only at hmp hw hgs hnd hbd hwb hmn hb hg
  unfold Fm.blks Fm.cells at hmem ⊢
  dsimp only at hmem ⊢
  refine xf_enter (args := [_, _, _]) Try.func49 rfl Try.ntmps49 rfl ?_
  cases b with
  | false =>
    focus
      refine xc_seq ?_
      refine xc_region ?_
      refine xo_ef rfl (ef_box rfl fun r4 => ?_)
      refine xo_rd (rd_assign rfl) rfl ?_
      refine xo_nil ?_
      refine xq_seq ?_
      refine xc_seq ?_
      refine xc_seq ?_
      refine xc_region ?_
      refine xo_rd (rd_move rfl) rfl ?_
      refine xo_rd (rd_load1 rfl (Cl.o0 rfl)) rfl ?_
      refine xo_ef rfl (ef_buildL (T := 75) (len := 1) (s := 1) (cells := (ints .u32 [w]).toArray) rfl (by decide) (by decide) (by kernel_rfl) fun r10 => ?_)
      refine xo_ef rfl (ef_call rfl (XF.mono (hmem _ (by intro z hz; simp [hz]) _ (rs_one (List.Mem.head _))) ?_))
      rintro v L' ⟨rfl, rfl⟩
      refine xo_rd (rd_assign rfl) rfl ?_
      refine xo_nil ?_
      refine xq_seq ?_
      refine xc_seq ?_
      refine xc_region ?_
      refine xo_rd (rd_move rfl) rfl ?_
      refine xo_rd (rd_neq rfl rfl) rfl ?_
      refine xo_nil ?_
      refine xq_seq ?_
      refine xc_condt rfl ?_
      refine xc_seq ?_
      refine xc_region ?_
      refine xo_rd (rd_move rfl) rfl ?_
      refine xo_rd (rd_assign rfl) rfl ?_
      refine xo_nil ?_
      refine xq_seq ?_
      refine xc_ret ?_
      refine xq_then_ret ?_
    exact xq_sub (List.sublist_append_right [_, _] _) (xq_ret1 (.inl rfl) Try.results49 rfl ⟨by (rw [leaveE]; dsimp only; rw [hb]) <;> rfl, _, hx', by rw [leaveF]; dsimp only; rw [hb]; exact (if_neg (by decide)).symm, rfl⟩)
  | true =>
    focus
      refine xc_seq ?_
      refine xc_region ?_
      refine xo_ef rfl (ef_box rfl fun r4 => ?_)
      refine xo_rd (rd_assign rfl) rfl ?_
      refine xo_nil ?_
      refine xq_seq ?_
      refine xc_seq ?_
      refine xc_seq ?_
      refine xc_region ?_
      refine xo_rd (rd_move rfl) rfl ?_
      refine xo_rd (rd_load1 rfl (Cl.o0 rfl)) rfl ?_
      refine xo_ef rfl (ef_buildL (T := 75) (len := 1) (s := 1) (cells := (ints .u32 [w]).toArray) rfl (by decide) (by decide) (by kernel_rfl) fun r10 => ?_)
      refine xo_ef rfl (ef_call rfl (XF.mono (hmem _ (by intro z hz; simp [hz]) _ (rs_one (List.Mem.head _))) ?_))
      rintro v L' ⟨rfl, rfl⟩
      refine xo_rd (rd_assign rfl) rfl ?_
      refine xo_nil ?_
      refine xq_seq ?_
      refine xc_seq ?_
      refine xc_region ?_
      refine xo_rd (rd_move rfl) rfl ?_
      refine xo_rd (rd_neq rfl rfl) rfl ?_
      refine xo_nil ?_
      refine xq_seq ?_
      refine xc_condf rfl ?_
      refine xc_skip ?_
      refine xq_seq ?_
    have hE : leaveE ⟨bound, sil, ms, held, no, who, at', heard, pend, wt, gs⟩ w = 0 := by (rw [leaveE]; dsimp only; rw [hb]) <;> rfl
    have hmpl : (roleV ms w).isSome = true := by rw [isM_find, hb]
    have hfl : (wt.filter fun x => !decide (x = w)).length ≤ wt.length := List.length_filter_le ..
    obtain ⟨q, hq⟩ : ∃ q, holdsA ⟨bound, sil, ms, held, no, who, at', heard, pend, wt, gs⟩ w = q := ⟨_, rfl⟩
    refine xc_join (ι := Obj) (fun mo2 => MpIs .u32 mo2 (mupd (roleV ms) w none) (if (roleV ms w).isSome then ms.length - 1 else ms.length)) (fun mo2 => (r4, Obj.cells (Value.int .u32 w).cells 32 (0, 0)) :: (r, Obj.cells (fcl bound sil mb no who at' heard pend held wp wt.length wc gp gs.length gc).toArray 98 (0, 0)) :: (mb, mo2) :: (wl ++ (gl ++ L))) (fun mo2 => [(0, .pointer (some ⟨r, 0, none⟩)), (2, .int .u64 now), (4, .pointer (some ⟨r4, 0, none⟩))]) ?_ ?_
    · skip
      focus
        refine xc_drawM [0, 1, 2, 4, 0, 24] [0, 1, 2, 4, 0, 24] [] (by kernel_rfl) (by kernel_rfl) (by kernel_rfl) ?_
        refine xm_take 0 (m' := 1) rfl (by kernel_rfl) (by first | exact Sb.refl | exact Sb.nil | (repeat (first | exact Sb.nil | exact Sb.refl | exact Sb.app0 | apply Sb.keep | apply Sb.keepApp | apply Sb.cons | apply Sb.app))) (rd_move rfl) rfl (by kernel_rfl) ?_
        refine xm_take 1 (m' := 3) rfl (by kernel_rfl) (by first | exact Sb.refl | exact Sb.nil | (repeat (first | exact Sb.nil | exact Sb.refl | exact Sb.app0 | apply Sb.keep | apply Sb.keepApp | apply Sb.cons | apply Sb.app))) (rd_nilCheck rfl) rfl (by kernel_rfl) ?_
        refine xm_take 2 (m' := 7) rfl (by kernel_rfl) (by first | exact Sb.refl | exact Sb.nil | (repeat (first | exact Sb.nil | exact Sb.refl | exact Sb.app0 | apply Sb.keep | apply Sb.keepApp | apply Sb.cons | apply Sb.app))) (rd_fieldAddr rfl) rfl (by kernel_rfl) ?_
        refine xm_two 3 4 (mi := 15) (mk := 23) rfl rfl (by kernel_rfl) rfl rfl (by kernel_rfl) (by kernel_rfl) (ef_rd (rd_load1 rfl (Cl.o2 rfl)) ⟨(by first | exact Sb.refl | exact Sb.nil | (repeat (first | exact Sb.nil | exact Sb.refl | exact Sb.app0 | apply Sb.keep | apply Sb.keepApp | apply Sb.cons | apply Sb.app))), ?_⟩) (ef_rd (rd_load1 rfl (Cl.o1 rfl)) ⟨(by first | exact Sb.refl | exact Sb.nil | (repeat (first | exact Sb.nil | exact Sb.refl | exact Sb.app0 | apply Sb.keep | apply Sb.keepApp | apply Sb.cons | apply Sb.app))), ?_⟩)
        refine xm_one 4 (m' := 31) rfl (by kernel_rfl) rfl (by kernel_rfl) (ef_rd (rd_load1 rfl (Cl.o1 rfl)) ?_)
        refine ⟨(by first | exact Sb.refl | exact Sb.nil | (repeat (first | exact Sb.nil | exact Sb.refl | exact Sb.app0 | apply Sb.keep | apply Sb.keepApp | apply Sb.cons | apply Sb.app))), ?_⟩
        refine xm_one 5 (m' := 63) rfl (by kernel_rfl) rfl (by kernel_rfl) (ef_delete [_, _, _] _ hmp rfl rfl rfl fun mo2 hmp2 => ?_)
        refine ⟨(by first | exact Sb.refl | exact Sb.nil | (repeat (first | exact Sb.nil | exact Sb.refl | exact Sb.app0 | apply Sb.keep | apply Sb.keepApp | apply Sb.cons | apply Sb.app))), ?_⟩
        refine xm_done (by kernel_rfl) ?_
        rotate_left
        refine xm_one 3 (m' := 31) rfl (by kernel_rfl) rfl (by kernel_rfl) (ef_rd (rd_load1 rfl (Cl.o2 rfl)) ?_)
        refine ⟨(by first | exact Sb.refl | exact Sb.nil | (repeat (first | exact Sb.nil | exact Sb.refl | exact Sb.app0 | apply Sb.keep | apply Sb.keepApp | apply Sb.cons | apply Sb.app))), ?_⟩
        refine xm_one 5 (m' := 63) rfl (by kernel_rfl) rfl (by kernel_rfl) (ef_delete [_, _, _] _ hmp rfl rfl rfl fun mo2 hmp2 => ?_)
        refine ⟨(by first | exact Sb.refl | exact Sb.nil | (repeat (first | exact Sb.nil | exact Sb.refl | exact Sb.app0 | apply Sb.keep | apply Sb.keepApp | apply Sb.cons | apply Sb.app))), ?_⟩
        refine xm_done (by kernel_rfl) ?_
        rotate_left
      all_goals exact xq_sub (List.sublist_cons_self _ _) (xq_joined mo2 hmp2 rfl (by repeat (first | exact keep_nil | refine keep_cons rfl ?_)))
    intro mo2 hmp2
    have hdel := (xf_delf (W := W) (R := (r4, Obj.cells (Value.int .u32 w).cells 32 (0, 0)) :: (r, Obj.cells (fcl bound sil mb no who at' heard pend held wp wt.length wc gp gs.length gc).toArray 98 (0, 0)) :: (mb, mo2) :: (gl ++ L)) wp wt.length wc wt wl hw rfl (fun x => decide (x = w)) (by omega) r4 (fun l' x _ => xf_is47 x r4 w (Cl.own (List.mem_append_right _ List.mem_cons_self) rfl))).perm (perm_f3 wl (gl ++ L))
    focus
      refine xc_seq ?_
      refine xc_region ?_
      refine xo_rd (rd_move rfl) rfl ?_
      refine xo_rd (rd_move rfl) rfl ?_
      refine xo_rd (rd_nilCheck rfl) rfl ?_
      refine xo_rd (rd_fieldAddr rfl) rfl ?_
      refine xo_rd (rd_load1 rfl (Cl.o1 rfl)) rfl ?_
      refine xo_rd (rd_makeFunc rfl rfl) rfl ?_
      refine xo_ef rfl (ef_call rfl (XF.mono (hdel) ?_))
      rintro v L' ⟨wl2, rfl, hw2, rfl⟩
      refine xo_perm (perm_f3 wl2 (gl ++ L)).symm ?_
      refine xo_rd (rd_nilCheck rfl) rfl ?_
      refine xo_rd (rd_fieldAddr rfl) rfl ?_
      refine xo_ef rfl (ef_store1 [_] _ rfl rfl (by first | rfl | assumption) rfl rfl rfl ?_)
      refine xo_nil ?_
      refine xq_seq ?_
    have hx1 : (Fm.mk (outF ⟨bound, sil, ms, held, no, who, at', heard, pend, wt, gs⟩ w) mb mo2 wp wc wl2 gp gc gl).Ok := ⟨hmp2.cong (fun z => (roleV_out z).symm) (by rw [hmpl]; exact (out_len hnd hb).symm), hw2, hgs, out_nodup hnd, hbd, by dsimp only [outF]; omega, by dsimp only [outF]; have := List.length_filter_le (fun e => !(e.1 == w)) ms; omega⟩
    refine xc_sub (L' := (r4, Obj.cells (Value.int .u32 w).cells 32 (0, 0)) :: (Fm.mk (outF ⟨bound, sil, ms, held, no, who, at', heard, pend, wt, gs⟩ w) mb mo2 wp wc wl2 gp gc gl).blks r L) (List.Sublist.refl _) ?_
    have hol := fun L' h => xf_hol (W := W) (L := L') r _ (hx1.fr h) w q (by rw [← hq]; rfl)
    have hsb : ∀ z, z ∈ (r, Obj.cells (Fm.mk (outF ⟨bound, sil, ms, held, no, who, at', heard, pend, wt, gs⟩ w) mb mo2 wp wc wl2 gp gc gl).cells.toArray 98 (0, 0)) :: (mb, mo2) :: (wl2 ++ gl) → z ∈ (r4, Obj.cells (Value.int .u32 w).cells 32 (0, 0)) :: (Fm.mk (outF ⟨bound, sil, ms, held, no, who, at', heard, pend, wt, gs⟩ w) mb mo2 wp wc wl2 gp gc gl).blks r L := fun z hz => List.mem_cons_of_mem _ (by unfold Fm.blks; rw [← List.append_assoc]; exact List.mem_append_left L hz)
    cases q with
    | false =>
      focus
        refine xc_seq ?_
        refine xc_seq ?_
        refine xc_region ?_
        refine xo_rd (rd_move rfl) rfl ?_
        refine xo_rd (rd_load1 rfl (Cl.o0 rfl)) rfl ?_
        refine xo_ef rfl (ef_call rfl (XF.mono (hol _ hsb) ?_))
        rintro v L' ⟨rfl, rfl⟩
        refine xo_nil ?_
        refine xq_seq ?_
        refine xc_condf rfl ?_
        refine xc_skip ?_
        refine xq_seq ?_
        refine xc_seq ?_
        refine xc_region ?_
        refine xo_rd (rd_assign rfl) rfl ?_
        refine xo_nil ?_
        refine xq_seq ?_
        refine xc_ret ?_
      exact xq_sub (List.sublist_cons_self _ _) (xq_ret1 (.inl rfl) Try.results49 rfl ⟨by rw [hE], _, hx1, by rw [leaveF]; dsimp only; rw [hb, if_pos rfl, hq, if_neg (by decide)], rfl⟩)
    | true =>
      focus
        refine xc_seq ?_
        refine xc_seq ?_
        refine xc_region ?_
        refine xo_rd (rd_move rfl) rfl ?_
        refine xo_rd (rd_load1 rfl (Cl.o0 rfl)) rfl ?_
        refine xo_ef rfl (ef_call rfl (XF.mono (hol _ hsb) ?_))
        rintro v L' ⟨rfl, rfl⟩
        refine xo_nil ?_
        refine xq_seq ?_
        refine xc_condt rfl ?_
        refine xc_region ?_
        refine xo_rd (rd_move rfl) rfl ?_
        refine xo_rd (rd_move rfl) rfl ?_
      refine xo_sub (List.sublist_cons_self _ _) ?_
      focus
        refine xo_ef rfl (ef_call rfl (XF.mono (xf_end r _ hx1 now hg) ?_))
        rintro v L' ⟨rfl, y, hy, hya, rfl⟩
        refine xo_nil ?_
        refine xq_seq ?_
        refine xc_seq ?_
        refine xc_region ?_
        refine xo_rd (rd_assign rfl) rfl ?_
        refine xo_nil ?_
        refine xq_seq ?_
        refine xc_ret ?_
      exact xq_ret1 (.inl rfl) Try.results49 rfl ⟨by rw [hE], y, hy, by rw [hya, leaveF]; dsimp only; rw [hb, if_pos rfl, hq, if_pos rfl], rfl⟩
end Go.Proofs.Ytmdeajdaeihniaa.X
/-
  Chapter 13: what else may be asked of a floor: walks of my own.
-/
namespace Go.Proofs.Ytmdeajdaeihniaa.X
open Go Go.RowKit
set_option linter.unusedVariables false
set_option linter.unusedSimpArgs false
theorem ixOf_mem {l : List Int} {w : Int} (h : 0 ≤ ixOf l w) : w ∈ l := by
  unfold ixOf at h
  cases hf : l.findIdx? (· == w) with
  | none => rw [hf] at h; exact absurd h (by decide)
  | some i =>
    obtain ⟨hi, h1, _⟩ := List.findIdx?_eq_some_iff_getElem.1 hf
    exact (eq_of_beq h1) ▸ List.getElem_mem hi
theorem mem_ixOf {l : List Int} {w : Int} (h : w ∈ l) : 0 ≤ ixOf l w := by
  unfold ixOf
  cases hf : l.findIdx? (· == w) with
  | none => have := List.findIdx?_eq_none_iff.1 hf w h; simp at this
  | some i => exact Int.natCast_nonneg i
theorem Fm.sub {r : Nat} {x : Fm} {L : List Blk} : ∀ z, z ∈ (r, Obj.cells x.cells.toArray 98 (0, 0)) :: (x.mb, x.mo) :: (x.wl ++ x.gl) → z ∈ x.blks r L := fun z hz => by
  unfold Fm.blks; rw [← List.append_assoc]; exact List.mem_append_left L hz
theorem Fm.Ok.fr0 {W : World} {L L' : List Blk} {r : Nat} {x : Fm} (h : x.Ok) (hm : ∀ z, z ∈ x.blks r L → z ∈ L') : FR W L' r x := (h.fr (Fm.sub (L := L))).mono hm
theorem rs_cons {W : World} {L : List Blk} {r : Nat} {k : IntKind} {T : TypeId} {ws : List Int} : Rs W ((r, Obj.cells (ints k ws).toArray T (0, 0)) :: L) (some ⟨r, 0, none⟩) (ints k ws) := Rs.fresh List.mem_cons_self
set_option maxHeartbeats 800000 in
theorem xf_Release {W : World} {L : List Blk} (r : Nat) (x : Fm) (hx : x.Ok) (w now : Int) (hg : x.a.gs.length ≤ 1000000) : XF Try.prog W 55 #[.pointer (some ⟨r, 0, none⟩), .int .u32 w, .int .u64 now] (x.blks r L) (fun v L' => v = .int .i64 (relE x.a w) ∧ ∃ y : Fm, y.Ok ∧ y.a = relF x.a w now ∧ L' = y.blks r L) := by
  obtain ⟨b, hb⟩ : ∃ b, isM x.a.ms w = b := ⟨_, rfl⟩
  obtain ⟨q, hq⟩ : ∃ q, holdsA x.a w = q := ⟨_, rfl⟩
  have hmem := fun L' (h : ∀ z, z ∈ x.blks r L → z ∈ L') p (hr : Rs W L' p (ints .u32 [w])) => xf_mem (W := W) (L := L') r x hx (hx.fr0 h) p 1 1 [w] rfl hr (by decide) b (by simpa using hb)
  have hol := fun L' (h : ∀ z, z ∈ x.blks r L → z ∈ L') => xf_hol (W := W) (L := L') r x (hx.fr0 h) w q hq
  refine xf_enter (args := [_, _, _]) Try.func55 rfl Try.ntmps55 rfl ?_
  cases b with
  | false =>
    focus
      refine xc_seq ?_
      refine xc_region ?_
      refine xo_rd (rd_assign rfl) rfl ?_
      refine xo_nil ?_
      refine xq_seq ?_
      refine xc_seq ?_
      refine xc_region ?_
      refine xo_rd (rd_move rfl) rfl ?_
      refine xo_rd (rd_move rfl) rfl ?_
      refine xo_ef rfl (ef_buildL (T := 75) (len := 1) (s := 1) (cells := (ints .u32 [w]).toArray) rfl (by decide) (by decide) (by kernel_rfl) fun r10 => ?_)
      refine xo_ef rfl (ef_call rfl (XF.mono (hmem _ (by intro z hz; simp [hz]) _ rs_cons) ?_))
      rintro v L' ⟨rfl, rfl⟩
      refine xo_rd (rd_assign rfl) rfl ?_
      refine xo_nil ?_
      refine xq_seq ?_
      refine xc_seq ?_
      refine xc_block ?_
      refine xc_seq ?_
      refine xc_region ?_
      refine xo_rd (rd_move rfl) rfl ?_
      refine xo_rd (rd_neq rfl rfl) rfl ?_
      refine xo_rd (rd_assign rfl) rfl ?_
      refine xo_nil ?_
      refine xq_seq ?_
      refine xc_condt rfl ?_
      refine xc_seq ?_
      refine xc_region ?_
      refine xo_rd (rd_move rfl) rfl ?_
      refine xo_rd (rd_assign rfl) rfl ?_
      refine xo_nil ?_
      refine xq_seq ?_
      refine xc_ret ?_
      refine xq_block_ret ?_
      refine xq_then_ret ?_
    have hE : relE x.a w = 130 := by unfold relE; rw [hb]; rfl
    exact xq_sub (List.sublist_cons_self _ _) (xq_ret1 (.inl rfl) Try.results55 rfl ⟨by rw [hE]; rfl, x, hx, by rw [relF, hE]; rfl, rfl⟩)
  | true =>
    cases q with
    | false =>
      focus
        refine xc_seq ?_
        refine xc_region ?_
        refine xo_rd (rd_assign rfl) rfl ?_
        refine xo_nil ?_
        refine xq_seq ?_
        refine xc_seq ?_
        refine xc_region ?_
        refine xo_rd (rd_move rfl) rfl ?_
        refine xo_rd (rd_move rfl) rfl ?_
        refine xo_ef rfl (ef_buildL (T := 75) (len := 1) (s := 1) (cells := (ints .u32 [w]).toArray) rfl (by decide) (by decide) (by kernel_rfl) fun r10 => ?_)
        refine xo_ef rfl (ef_call rfl (XF.mono (hmem _ (by intro z hz; simp [hz]) _ rs_cons) ?_))
        rintro v L' ⟨rfl, rfl⟩
        refine xo_rd (rd_assign rfl) rfl ?_
        refine xo_nil ?_
        refine xq_seq ?_
        refine xc_seq ?_
        refine xc_block ?_
        refine xc_seq ?_
        refine xc_region ?_
        refine xo_rd (rd_move rfl) rfl ?_
        refine xo_rd (rd_neq rfl rfl) rfl ?_
        refine xo_rd (rd_assign rfl) rfl ?_
        refine xo_nil ?_
        refine xq_seq ?_
        refine xc_condf rfl ?_
        refine xc_seq ?_
        refine xc_region ?_
        refine xo_rd (rd_move rfl) rfl ?_
        refine xo_rd (rd_move rfl) rfl ?_
        refine xo_ef rfl (ef_call rfl (XF.mono (hol _ (by intro z hz; simp [hz])) ?_))
        rintro v L' ⟨rfl, rfl⟩
        refine xo_rd (rd_not rfl) rfl ?_
        refine xo_rd (rd_assign rfl) rfl ?_
        refine xo_nil ?_
        refine xq_seq ?_
        refine xc_condt rfl ?_
        refine xc_seq ?_
        refine xc_region ?_
        refine xo_rd (rd_assign rfl) rfl ?_
        refine xo_nil ?_
        refine xq_seq ?_
        refine xc_ret ?_
        refine xq_block_ret ?_
        refine xq_then_ret ?_
      have hE : relE x.a w = 133 := by unfold relE; rw [hb, hq]; rfl
      exact xq_sub (List.sublist_cons_self _ _) (xq_ret1 (.inl rfl) Try.results55 rfl ⟨by rw [hE], x, hx, by rw [relF, hE]; rfl, rfl⟩)
    | true =>
      focus
        refine xc_seq ?_
        refine xc_region ?_
        refine xo_rd (rd_assign rfl) rfl ?_
        refine xo_nil ?_
        refine xq_seq ?_
        refine xc_seq ?_
        refine xc_region ?_
        refine xo_rd (rd_move rfl) rfl ?_
        refine xo_rd (rd_move rfl) rfl ?_
        refine xo_ef rfl (ef_buildL (T := 75) (len := 1) (s := 1) (cells := (ints .u32 [w]).toArray) rfl (by decide) (by decide) (by kernel_rfl) fun r10 => ?_)
        refine xo_ef rfl (ef_call rfl (XF.mono (hmem _ (by intro z hz; simp [hz]) _ rs_cons) ?_))
        rintro v L' ⟨rfl, rfl⟩
        refine xo_rd (rd_assign rfl) rfl ?_
        refine xo_nil ?_
        refine xq_seq ?_
        refine xc_seq ?_
        refine xc_block ?_
        refine xc_seq ?_
        refine xc_region ?_
        refine xo_rd (rd_move rfl) rfl ?_
        refine xo_rd (rd_neq rfl rfl) rfl ?_
        refine xo_rd (rd_assign rfl) rfl ?_
        refine xo_nil ?_
        refine xq_seq ?_
        refine xc_condf rfl ?_
        refine xc_seq ?_
        refine xc_region ?_
        refine xo_rd (rd_move rfl) rfl ?_
        refine xo_rd (rd_move rfl) rfl ?_
        refine xo_ef rfl (ef_call rfl (XF.mono (hol _ (by intro z hz; simp [hz])) ?_))
        rintro v L' ⟨rfl, rfl⟩
        refine xo_rd (rd_not rfl) rfl ?_
        refine xo_rd (rd_assign rfl) rfl ?_
        refine xo_nil ?_
        refine xq_seq ?_
        refine xc_condf rfl ?_
        refine xc_skip ?_
        refine xq_block ?_
        refine xq_seq ?_
      refine xc_sub (List.sublist_cons_self _ _) ?_
      focus
        refine xc_seq ?_
        refine xc_region ?_
        refine xo_rd (rd_move rfl) rfl ?_
        refine xo_rd (rd_move rfl) rfl ?_
        refine xo_ef rfl (ef_call rfl (XF.mono (xf_end r _ hx now hg) ?_))
        rintro v L' ⟨rfl, y, hy, hya, rfl⟩
        refine xo_nil ?_
        refine xq_seq ?_
        refine xc_seq ?_
        refine xc_region ?_
        refine xo_rd (rd_assign rfl) rfl ?_
        refine xo_nil ?_
        refine xq_seq ?_
        refine xc_ret ?_
      have hE : relE x.a w = 0 := by unfold relE; rw [hb, hq]; rfl
      exact xq_ret1 (.inl rfl) Try.results55 rfl ⟨by rw [hE], y, hy, by rw [hya, relF, hE]; rfl, rfl⟩
theorem roleV_mod (l : List (Int × Bool)) (w : Int) : (roleV l w).getD (.int .i64 0) = .int .i64 (if modA l w = true then 1 else 0) := by
  unfold roleV modA
  cases l.find? fun e => e.1 == w <;> rfl
set_option maxHeartbeats 800000 in
theorem xf_Revoke {W : World} {L : List Blk} (r : Nat) (x : Fm) (hx : x.Ok) (bw w now : Int) (hg : x.a.gs.length ≤ 1000000) : XF Try.prog W 56 #[.pointer (some ⟨r, 0, none⟩), .int .u32 bw, .int .u32 w, .int .u64 now] (x.blks r L) (fun v L' => v = .int .i64 (revE x.a bw w) ∧ ∃ y : Fm, y.Ok ∧ y.a = revF x.a bw w now ∧ L' = y.blks r L) := by
  obtain ⟨b, hb⟩ : ∃ b, (isM x.a.ms bw && isM x.a.ms w) = b := ⟨_, rfl⟩
  obtain ⟨md, hmd⟩ : ∃ md, modA x.a.ms bw = md := ⟨_, rfl⟩
  have hmem := fun L' (h : ∀ z, z ∈ x.blks r L → z ∈ L') p (hr : Rs W L' p (ints .u32 [bw, w])) => xf_mem (W := W) (L := L') r x hx (hx.fr0 h) p 2 2 [bw, w] rfl hr (by decide) b (by simpa using hb)
  have hfr := fun L' (h : ∀ z, z ∈ x.blks r L → z ∈ L') => hx.fr0 (W := W) (L' := L') h
  have hrv : (roleV x.a.ms bw).getD (.int .i64 0) = .int .i64 (if md = true then 1 else 0) := by rw [roleV_mod, hmd]
  refine xf_enter (args := [_, _, _, _]) Try.func56 rfl Try.ntmps56 rfl ?_
  cases b with
  | false =>
    focus
      refine xc_seq ?_
      refine xc_region ?_
      refine xo_rd (rd_assign rfl) rfl ?_
      refine xo_nil ?_
      refine xq_seq ?_
      refine xc_seq ?_
      refine xc_region ?_
      refine xo_rd (rd_move rfl) rfl ?_
      refine xo_rd (rd_move rfl) rfl ?_
      refine xo_rd (rd_move rfl) rfl ?_
      refine xo_ef rfl (ef_buildL (T := 75) (len := 2) (s := 1) (cells := (ints .u32 [bw, w]).toArray) rfl (by decide) (by decide) (by kernel_rfl) fun r13 => ?_)
      refine xo_ef rfl (ef_call rfl (XF.mono (hmem _ (by intro z hz; simp [hz]) _ rs_cons) ?_))
      rintro v L' ⟨rfl, rfl⟩
      refine xo_rd (rd_assign rfl) rfl ?_
      refine xo_nil ?_
      refine xq_seq ?_
      refine xc_seq ?_
      refine xc_block ?_
      refine xc_seq ?_
      refine xc_region ?_
      refine xo_rd (rd_move rfl) rfl ?_
      refine xo_rd (rd_neq rfl rfl) rfl ?_
      refine xo_rd (rd_assign rfl) rfl ?_
      refine xo_nil ?_
      refine xq_seq ?_
      refine xc_condt rfl ?_
      refine xc_seq ?_
      refine xc_region ?_
      refine xo_rd (rd_move rfl) rfl ?_
      refine xo_rd (rd_assign rfl) rfl ?_
      refine xo_nil ?_
      refine xq_seq ?_
      refine xc_ret ?_
      refine xq_block_ret ?_
      refine xq_then_ret ?_
    have hE : revE x.a bw w = 130 := by
      unfold revE
      rw [if_neg]
      rintro ⟨h1, h2⟩
      rw [h1, h2] at hb; cases hb
    exact xq_sub (List.sublist_cons_self _ _) (xq_ret1 (.inl rfl) Try.results56 rfl ⟨by rw [hE]; rfl, x, hx, by rw [revF, hE]; rfl, rfl⟩)
  | true =>
    have hb2 := Bool.and_eq_true_iff.1 hb
    cases md with
    | false =>
      focus
        refine xc_seq ?_
        refine xc_region ?_
        refine xo_rd (rd_assign rfl) rfl ?_
        refine xo_nil ?_
        refine xq_seq ?_
        refine xc_seq ?_
        refine xc_region ?_
        refine xo_rd (rd_move rfl) rfl ?_
        refine xo_rd (rd_move rfl) rfl ?_
        refine xo_rd (rd_move rfl) rfl ?_
        refine xo_ef rfl (ef_buildL (T := 75) (len := 2) (s := 1) (cells := (ints .u32 [bw, w]).toArray) rfl (by decide) (by decide) (by kernel_rfl) fun r13 => ?_)
        refine xo_ef rfl (ef_call rfl (XF.mono (hmem _ (by intro z hz; simp [hz]) _ rs_cons) ?_))
        rintro v L' ⟨rfl, rfl⟩
        refine xo_rd (rd_assign rfl) rfl ?_
        refine xo_nil ?_
        refine xq_seq ?_
        refine xc_seq ?_
        refine xc_block ?_
        refine xc_seq ?_
        refine xc_region ?_
        refine xo_rd (rd_move rfl) rfl ?_
        refine xo_rd (rd_neq rfl rfl) rfl ?_
        refine xo_rd (rd_assign rfl) rfl ?_
        refine xo_nil ?_
        refine xq_seq ?_
        refine xc_condf rfl ?_
        refine xc_seq ?_
        refine xc_region ?_
        refine xo_rd (rd_move rfl) rfl ?_
        refine xo_rd (rd_nilCheck rfl) rfl ?_
        refine xo_rd (rd_fieldAddr rfl) rfl ?_
        refine xo_rd (rd_load1 rfl ((hfr _ (by intro z hz; simp [hz])).cl 2 _ rfl)) rfl ?_
        refine xo_rd (rd_move rfl) rfl ?_
        refine xo_rd (rd_cast (v' := .int .i64 0) (rd_lookup hx.mp rfl rfl (hfr _ (by intro z hz; simp [hz])).kn) hrv) rfl ?_
        refine xo_rd (rd_neq rfl rfl) rfl ?_
        refine xo_rd (rd_assign rfl) rfl ?_
        refine xo_nil ?_
        refine xq_seq ?_
        refine xc_condt rfl ?_
        refine xc_seq ?_
        refine xc_region ?_
        refine xo_rd (rd_assign rfl) rfl ?_
        refine xo_nil ?_
        refine xq_seq ?_
        refine xc_ret ?_
        refine xq_block_ret ?_
        refine xq_then_ret ?_
      have hE : revE x.a bw w = 134 := by unfold revE; rw [if_pos hb2, hmd]; rfl
      exact xq_sub (List.sublist_cons_self _ _) (xq_ret1 (.inl rfl) Try.results56 rfl ⟨by rw [hE], x, hx, by rw [revF, hE]; rfl, rfl⟩)
    | true =>
      focus
        refine xc_seq ?_
        refine xc_region ?_
        refine xo_rd (rd_assign rfl) rfl ?_
        refine xo_nil ?_
        refine xq_seq ?_
        refine xc_seq ?_
        refine xc_region ?_
        refine xo_rd (rd_move rfl) rfl ?_
        refine xo_rd (rd_move rfl) rfl ?_
        refine xo_rd (rd_move rfl) rfl ?_
        refine xo_ef rfl (ef_buildL (T := 75) (len := 2) (s := 1) (cells := (ints .u32 [bw, w]).toArray) rfl (by decide) (by decide) (by kernel_rfl) fun r13 => ?_)
        refine xo_ef rfl (ef_call rfl (XF.mono (hmem _ (by intro z hz; simp [hz]) _ rs_cons) ?_))
        rintro v L' ⟨rfl, rfl⟩
        refine xo_rd (rd_assign rfl) rfl ?_
        refine xo_nil ?_
        refine xq_seq ?_
        refine xc_seq ?_
        refine xc_block ?_
        refine xc_seq ?_
        refine xc_region ?_
        refine xo_rd (rd_move rfl) rfl ?_
        refine xo_rd (rd_neq rfl rfl) rfl ?_
        refine xo_rd (rd_assign rfl) rfl ?_
        refine xo_nil ?_
        refine xq_seq ?_
        refine xc_condf rfl ?_
        refine xc_seq ?_
        refine xc_region ?_
        refine xo_rd (rd_move rfl) rfl ?_
        refine xo_rd (rd_nilCheck rfl) rfl ?_
        refine xo_rd (rd_fieldAddr rfl) rfl ?_
        refine xo_rd (rd_load1 rfl ((hfr _ (by intro z hz; simp [hz])).cl 2 _ rfl)) rfl ?_
        refine xo_rd (rd_move rfl) rfl ?_
        refine xo_rd (rd_cast (v' := .int .i64 1) (rd_lookup hx.mp rfl rfl (hfr _ (by intro z hz; simp [hz])).kn) hrv) rfl ?_
        refine xo_rd (rd_neq rfl rfl) rfl ?_
        refine xo_rd (rd_assign rfl) rfl ?_
        refine xo_nil ?_
        refine xq_seq ?_
        refine xc_condf rfl ?_
        refine xc_skip ?_
        refine xq_block ?_
        refine xq_seq ?_
      refine xc_sub (List.sublist_cons_self _ _) ?_
      focus
        refine xc_seq ?_
        refine xc_region ?_
        refine xo_rd (rd_move rfl) rfl ?_
        refine xo_rd (rd_move rfl) rfl ?_
        refine xo_rd (rd_move rfl) rfl ?_
        refine xo_ef rfl (ef_call rfl (XF.mono (xf_Release r x hx w now hg) ?_))
        rintro v L' ⟨rfl, y, hy, hya, rfl⟩
        refine xo_rd (rd_assign rfl) rfl ?_
        refine xo_nil ?_
        refine xq_seq ?_
        refine xc_ret ?_
      have hE : revE x.a bw w = relE x.a w := by unfold revE; rw [if_pos hb2, hmd]; rfl
      exact xq_ret1 (.inl rfl) Try.results56 rfl ⟨by rw [hE], y, hy, by rw [hya, revF, hE]; rfl, rfl⟩
set_option maxHeartbeats 800000 in
theorem xf_Request {W : World} {L : List Blk} (r : Nat) (x : Fm) (hx : x.Ok) (w now : Int) (hg : x.a.gs.length ≤ 1000000) : XF Try.prog W 47 #[.pointer (some ⟨r, 0, none⟩), .int .u32 w, .int .u64 now] (x.blks r L) (fun v L' => v = .int .i64 (reqE x.a w) ∧ ∃ y : Fm, y.Ok ∧ y.a = reqF x.a w now ∧ L' = y.blks r L) := by
  obtain ⟨b, hb⟩ : ∃ b, isM x.a.ms w = b := ⟨_, rfl⟩
  obtain ⟨q, hq⟩ : ∃ q, holdsA x.a w = q := ⟨_, rfl⟩
  obtain ⟨i, hi⟩ : ∃ i, ixOf x.a.wt w = i := ⟨_, rfl⟩
  have hmem := fun L' (h : ∀ z, z ∈ x.blks r L → z ∈ L') p (hr : Rs W L' p (ints .u32 [w])) => xf_mem (W := W) (L := L') r x hx (hx.fr0 h) p 1 1 [w] rfl hr (by decide) b (by simpa using hb)
  have hol := fun L' (h : ∀ z, z ∈ x.blks r L → z ∈ L') => xf_hol (W := W) (L := L') r x (hx.fr0 h) w q hq
  have hwl : x.a.wt.length ≤ 32 := by have := hx.wb; have := hx.bd; omega
  have hct := fun L' (h : ∀ z, z ∈ x.blks r L → z ∈ L') => xf_contains (W := W) (L := L') x.wp x.a.wt.length x.wc x.a.wt w rfl (hx.fr0 h).w (by omega)
  rw [hi] at hct
  refine xf_enter (args := [_, _, _]) Try.func47 rfl Try.ntmps47 rfl ?_
  cases b with
  | false =>
    focus
      refine xc_seq ?_
      refine xc_region ?_
      refine xo_rd (rd_assign rfl) rfl ?_
      refine xo_nil ?_
      refine xq_seq ?_
      refine xc_seq ?_
      refine xc_region ?_
      refine xo_rd (rd_move rfl) rfl ?_
      refine xo_rd (rd_move rfl) rfl ?_
      refine xo_ef rfl (ef_buildL (T := 75) (len := 1) (s := 1) (cells := (ints .u32 [w]).toArray) rfl (by decide) (by decide) (by kernel_rfl) fun r10 => ?_)
      refine xo_ef rfl (ef_call rfl (XF.mono (hmem _ (by intro z hz; simp [hz]) _ rs_cons) ?_))
      rintro v L' ⟨rfl, rfl⟩
      refine xo_rd (rd_assign rfl) rfl ?_
      refine xo_nil ?_
      refine xq_seq ?_
      refine xc_seq ?_
      refine xc_block ?_
      refine xc_seq ?_
      refine xc_region ?_
      refine xo_rd (rd_move rfl) rfl ?_
      refine xo_rd (rd_neq rfl rfl) rfl ?_
      refine xo_rd (rd_assign rfl) rfl ?_
      refine xo_nil ?_
      refine xq_seq ?_
      refine xc_condt rfl ?_
      refine xc_seq ?_
      refine xc_region ?_
      refine xo_rd (rd_move rfl) rfl ?_
      refine xo_rd (rd_assign rfl) rfl ?_
      refine xo_nil ?_
      refine xq_seq ?_
      refine xc_ret ?_
      refine xq_block_ret ?_
      refine xq_then_ret ?_
    have hE : reqE x.a w = 130 := by unfold reqE; rw [hb]; rfl
    exact xq_sub (List.sublist_cons_self _ _) (xq_ret1 (.inl rfl) Try.results47 rfl ⟨by rw [hE]; rfl, x, hx, by rw [reqF, hE]; rfl, rfl⟩)
  | true =>
    by_cases hin : q = true ∨ 0 ≤ i
    · have hE : reqE x.a w = 132 := by
        unfold reqE; rw [hb, if_pos rfl, if_pos]
        rcases hin with h | h
        · exact .inl (hq.trans h)
        · exact .inr (ixOf_mem (hi ▸ h))
      rcases hin with h | h
      · subst h
        focus
          refine xc_seq ?_
          refine xc_region ?_
          refine xo_rd (rd_assign rfl) rfl ?_
          refine xo_nil ?_
          refine xq_seq ?_
          refine xc_seq ?_
          refine xc_region ?_
          refine xo_rd (rd_move rfl) rfl ?_
          refine xo_rd (rd_move rfl) rfl ?_
          refine xo_ef rfl (ef_buildL (T := 75) (len := 1) (s := 1) (cells := (ints .u32 [w]).toArray) rfl (by decide) (by decide) (by kernel_rfl) fun r10 => ?_)
          refine xo_ef rfl (ef_call rfl (XF.mono (hmem _ (by intro z hz; simp [hz]) _ rs_cons) ?_))
          rintro v L' ⟨rfl, rfl⟩
          refine xo_rd (rd_assign rfl) rfl ?_
          refine xo_nil ?_
          refine xq_seq ?_
          refine xc_seq ?_
          refine xc_block ?_
          refine xc_seq ?_
          refine xc_region ?_
          refine xo_rd (rd_move rfl) rfl ?_
          refine xo_rd (rd_neq rfl rfl) rfl ?_
          refine xo_rd (rd_assign rfl) rfl ?_
          refine xo_nil ?_
          refine xq_seq ?_
          refine xc_condf rfl ?_
          refine xc_seq ?_
          refine xc_region ?_
          refine xo_rd (rd_move rfl) rfl ?_
          refine xo_rd (rd_move rfl) rfl ?_
          refine xo_ef rfl (ef_call rfl (XF.mono (hol _ (by intro z hz; simp [hz])) ?_))
          rintro v L' ⟨rfl, rfl⟩
          refine xo_rd (rd_move rfl) rfl ?_
          refine xo_gskip rfl rfl rfl rfl ?_
          refine xo_gskip rfl rfl rfl rfl ?_
          refine xo_gskip rfl rfl rfl rfl ?_
          refine xo_gskip rfl rfl rfl rfl ?_
          refine xo_gskip rfl rfl rfl rfl ?_
          refine xo_gskip rfl rfl rfl rfl ?_
          refine xo_rd (rd_pickt rfl rfl) rfl ?_
          refine xo_rd (rd_assign rfl) rfl ?_
          refine xo_nil ?_
          refine xq_seq ?_
          refine xc_condt rfl ?_
          refine xc_seq ?_
          refine xc_region ?_
          refine xo_rd (rd_assign rfl) rfl ?_
          refine xo_nil ?_
          refine xq_seq ?_
          refine xc_ret ?_
          refine xq_block_ret ?_
          refine xq_then_ret ?_
        exact xq_sub (List.sublist_cons_self _ _) (xq_ret1 (.inl rfl) Try.results47 rfl ⟨by rw [hE], x, hx, by rw [reqF, hE]; rfl, rfl⟩)
      · skip
        focus
          refine xc_seq ?_
          refine xc_region ?_
          refine xo_rd (rd_assign rfl) rfl ?_
          refine xo_nil ?_
          refine xq_seq ?_
          refine xc_seq ?_
          refine xc_region ?_
          refine xo_rd (rd_move rfl) rfl ?_
          refine xo_rd (rd_move rfl) rfl ?_
          refine xo_ef rfl (ef_buildL (T := 75) (len := 1) (s := 1) (cells := (ints .u32 [w]).toArray) rfl (by decide) (by decide) (by kernel_rfl) fun r10 => ?_)
          refine xo_ef rfl (ef_call rfl (XF.mono (hmem _ (by intro z hz; simp [hz]) _ rs_cons) ?_))
          rintro v L' ⟨rfl, rfl⟩
          refine xo_rd (rd_assign rfl) rfl ?_
          refine xo_nil ?_
          refine xq_seq ?_
          refine xc_seq ?_
          refine xc_block ?_
          refine xc_seq ?_
          refine xc_region ?_
          refine xo_rd (rd_move rfl) rfl ?_
          refine xo_rd (rd_neq rfl rfl) rfl ?_
          refine xo_rd (rd_assign rfl) rfl ?_
          refine xo_nil ?_
          refine xq_seq ?_
          refine xc_condf rfl ?_
          refine xc_seq ?_
          refine xc_region ?_
          refine xo_rd (rd_move rfl) rfl ?_
          refine xo_rd (rd_move rfl) rfl ?_
          refine xo_ef rfl (ef_call rfl (XF.mono (hol _ (by intro z hz; simp [hz])) ?_))
          rintro v L' ⟨rfl, rfl⟩
          refine xo_rd (rd_move rfl) rfl ?_
          refine xo_split 20 rfl (fun hz1 => ?_) (fun hz1 => ?_)
          refine xo_gskip rfl rfl rfl rfl ?_
          refine xo_gskip rfl rfl rfl rfl ?_
          refine xo_gskip rfl rfl rfl rfl ?_
          refine xo_gskip rfl rfl rfl rfl ?_
          refine xo_gskip rfl rfl rfl rfl ?_
          refine xo_gskip rfl rfl rfl rfl ?_
          refine xo_rd (rd_pickt rfl rfl) rfl ?_
          refine xo_rd (rd_assign rfl) rfl ?_
          refine xo_nil ?_
          refine xq_seq ?_
          refine xc_condt rfl ?_
          refine xc_seq ?_
          refine xc_region ?_
          refine xo_rd (rd_assign rfl) rfl ?_
          refine xo_nil ?_
          refine xq_seq ?_
          refine xc_ret ?_
          refine xq_block_ret ?_
          refine xq_then_ret ?_
          rotate_left
          refine xo_grd rfl rfl (rd_move rfl) rfl ?_
          refine xo_grd rfl rfl (rd_nilCheck rfl) rfl ?_
          refine xo_grd rfl rfl (rd_fieldAddr rfl) rfl ?_
          refine xo_grd rfl rfl (rd_load1 rfl ((hx.fr0 (L := L) (by intro z hz; simp [hz])).cl 9 _ rfl)) rfl ?_
          refine xo_grd rfl rfl (rd_move rfl) rfl ?_
          refine xo_gef rfl rfl rfl (ef_call rfl (XF.mono (hct _ (by intro z hz; simp [hz])) ?_))
          rintro v L' ⟨rfl, rfl⟩
          refine xo_rd (rd_pickf rfl rfl) rfl ?_
          refine xo_rd (rd_assign rfl) rfl ?_
          refine xo_nil ?_
          refine xq_seq ?_
          refine xc_dec rfl (fun hz2 => ?_) (fun hz2 => (by exfalso; omega))
          refine xc_seq ?_
          refine xc_region ?_
          refine xo_rd (rd_assign rfl) rfl ?_
          refine xo_nil ?_
          refine xq_seq ?_
          refine xc_ret ?_
          refine xq_block_ret ?_
          refine xq_then_ret ?_
          rotate_left
        all_goals exact xq_sub (List.sublist_cons_self _ _) (xq_ret1 (.inl rfl) Try.results47 rfl ⟨by rw [hE], x, hx, by rw [reqF, hE]; rfl, rfl⟩)
    · have hqf : q = false := by cases q with | false => rfl | true => exact absurd (.inl rfl) hin
      have hif : ¬ 0 ≤ i := fun h => hin (.inr h)
      subst hqf
      have hno : ¬ (holdsA x.a w = true ∨ w ∈ x.a.wt) := by
        rintro (h | h)
        · rw [hq] at h; cases h
        · exact hif (hi ▸ mem_ixOf h)
      focus
        refine xc_seq ?_
        refine xc_region ?_
        refine xo_rd (rd_assign rfl) rfl ?_
        refine xo_nil ?_
        refine xq_seq ?_
        refine xc_seq ?_
        refine xc_region ?_
        refine xo_rd (rd_move rfl) rfl ?_
        refine xo_rd (rd_move rfl) rfl ?_
        refine xo_ef rfl (ef_buildL (T := 75) (len := 1) (s := 1) (cells := (ints .u32 [w]).toArray) rfl (by decide) (by decide) (by kernel_rfl) fun r10 => ?_)
        refine xo_ef rfl (ef_call rfl (XF.mono (hmem _ (by intro z hz; simp [hz]) _ rs_cons) ?_))
        rintro v L' ⟨rfl, rfl⟩
        refine xo_rd (rd_assign rfl) rfl ?_
        refine xo_nil ?_
        refine xq_seq ?_
        refine xc_seq ?_
        refine xc_block ?_
        refine xc_seq ?_
        refine xc_region ?_
        refine xo_rd (rd_move rfl) rfl ?_
        refine xo_rd (rd_neq rfl rfl) rfl ?_
        refine xo_rd (rd_assign rfl) rfl ?_
        refine xo_nil ?_
        refine xq_seq ?_
        refine xc_condf rfl ?_
        refine xc_seq ?_
        refine xc_region ?_
        refine xo_rd (rd_move rfl) rfl ?_
        refine xo_rd (rd_move rfl) rfl ?_
        refine xo_ef rfl (ef_call rfl (XF.mono (hol _ (by intro z hz; simp [hz])) ?_))
        rintro v L' ⟨rfl, rfl⟩
        refine xo_rd (rd_move rfl) rfl ?_
        refine xo_grd rfl rfl (rd_move rfl) rfl ?_
        refine xo_grd rfl rfl (rd_nilCheck rfl) rfl ?_
        refine xo_grd rfl rfl (rd_fieldAddr rfl) rfl ?_
        refine xo_grd rfl rfl (rd_load1 rfl ((hx.fr0 (L := L) (by intro z hz; simp [hz])).cl 9 _ rfl)) rfl ?_
        refine xo_grd rfl rfl (rd_move rfl) rfl ?_
        refine xo_gef rfl rfl rfl (ef_call rfl (XF.mono (hct _ (by intro z hz; simp [hz])) ?_))
        rintro v L' ⟨rfl, rfl⟩
        refine xo_rd (rd_pickf rfl rfl) rfl ?_
        refine xo_rd (rd_assign rfl) rfl ?_
        refine xo_nil ?_
        refine xq_seq ?_
        refine xc_dec rfl (fun hz1 => (by exfalso; omega)) (fun hz1 => ?_)
      refine xc_sub (List.sublist_cons_self _ _) ?_
      clear hmem hol hct
      obtain ⟨⟨bound, sil, ms, held, no, who, at', heard, pend, wt, gs⟩, mb, mo, wp, wc, wl, gp, gc, gl⟩ := x
      have hx' := hx
      obtain ⟨hmp, hw, hgs, hnd, hbd, hwb, hmn⟩ := hx
      dsimp only at hmp hw hgs hnd hbd hwb hmn hb hg hwl hno
      cases held with
      | false =>
        have hE : reqE ⟨bound, sil, ms, false, no, who, at', heard, pend, wt, gs⟩ w = 0 := by unfold reqE; dsimp only; rw [hb, if_pos rfl, if_neg hno]; rfl
        focus
          refine xc_seq ?_
          refine xc_region ?_
          refine xo_rd (rd_move rfl) rfl ?_
          refine xo_rd (rd_nilCheck rfl) rfl ?_
          refine xo_rd (rd_fieldAddr rfl) rfl ?_
          refine xo_rd (rd_fieldAddr rfl) rfl ?_
          refine xo_rd (rd_load1 rfl ((hx'.fr0 (L := L) (by intro z hz; simp [hz])).cl 8 _ rfl)) rfl ?_
          refine xo_rd (rd_not rfl) rfl ?_
          refine xo_rd (rd_assign rfl) rfl ?_
          refine xo_nil ?_
          refine xq_seq ?_
          refine xc_condt rfl ?_
          refine xc_seq ?_
          refine xc_region ?_
          refine xo_rd (rd_move rfl) rfl ?_
          refine xo_rd (rd_move rfl) rfl ?_
          refine xo_rd (rd_move rfl) rfl ?_
          refine xo_ef rfl (ef_call rfl (XF.mono (xf_grant r _ hx' w now hg) ?_))
          rintro v L' ⟨rfl, y, hy, hya, rfl⟩
          refine xo_nil ?_
          refine xq_seq ?_
          refine xc_seq ?_
          refine xc_region ?_
          refine xo_rd (rd_assign rfl) rfl ?_
          refine xo_nil ?_
          refine xq_seq ?_
          refine xc_ret ?_
          refine xq_block_ret ?_
          refine xq_then_ret ?_
        exact xq_ret1 (.inl rfl) Try.results47 rfl ⟨by rw [hE], y, hy, by rw [hya, reqF, hE]; rfl, rfl⟩
      | true =>
        unfold Fm.blks Fm.cells
        dsimp only
        focus
          refine xc_seq ?_
          refine xc_region ?_
          refine xo_rd (rd_move rfl) rfl ?_
          refine xo_rd (rd_nilCheck rfl) rfl ?_
          refine xo_rd (rd_fieldAddr rfl) rfl ?_
          refine xo_rd (rd_fieldAddr rfl) rfl ?_
          refine xo_rd (rd_load1 rfl (Cl.o0 rfl)) rfl ?_
          refine xo_rd (rd_not rfl) rfl ?_
          refine xo_rd (rd_assign rfl) rfl ?_
          refine xo_nil ?_
          refine xq_seq ?_
          refine xc_condf rfl ?_
          refine xc_seq ?_
          refine xc_drawML [0, 1, 2, 4, 8, 0, 32, 64, 128, 272, 512] [0, 1, 2, 4, 8, 0, 32, 64, 128, 272, 512] (by kernel_rfl) (by kernel_rfl) (by kernel_rfl) ?_
          refine xm_take 0 (m' := 1) rfl (by kernel_rfl) (by first | exact Sb.refl | exact Sb.nil | (repeat (first | exact Sb.nil | exact Sb.refl | exact Sb.app0 | apply Sb.keep | apply Sb.keepApp | apply Sb.cons | apply Sb.app))) (rd_move rfl) rfl (by kernel_rfl) ?_
          refine xm_take 1 (m' := 3) rfl (by kernel_rfl) (by first | exact Sb.refl | exact Sb.nil | (repeat (first | exact Sb.nil | exact Sb.refl | exact Sb.app0 | apply Sb.keep | apply Sb.keepApp | apply Sb.cons | apply Sb.app))) (rd_nilCheck rfl) rfl (by kernel_rfl) ?_
          refine xm_take 2 (m' := 7) rfl (by kernel_rfl) (by first | exact Sb.refl | exact Sb.nil | (repeat (first | exact Sb.nil | exact Sb.refl | exact Sb.app0 | apply Sb.keep | apply Sb.keepApp | apply Sb.cons | apply Sb.app))) (rd_fieldAddr rfl) rfl (by kernel_rfl) ?_
          refine xm_take 3 (m' := 15) rfl (by kernel_rfl) (by first | exact Sb.refl | exact Sb.nil | (repeat (first | exact Sb.nil | exact Sb.refl | exact Sb.app0 | apply Sb.keep | apply Sb.keepApp | apply Sb.cons | apply Sb.app))) (rd_load1 rfl (Cl.o0 rfl)) rfl (by kernel_rfl) ?_
          refine xm_take 4 (m' := 31) rfl (by kernel_rfl) (by first | exact Sb.refl | exact Sb.nil | (repeat (first | exact Sb.nil | exact Sb.refl | exact Sb.app0 | apply Sb.keep | apply Sb.keepApp | apply Sb.cons | apply Sb.app))) (rd_len rfl) rfl (by kernel_rfl) ?_
          refine xm_take 5 (m' := 63) rfl (by kernel_rfl) (by first | exact Sb.refl | exact Sb.nil | (repeat (first | exact Sb.nil | exact Sb.refl | exact Sb.app0 | apply Sb.keep | apply Sb.keepApp | apply Sb.cons | apply Sb.app))) (rd_move rfl) rfl (by kernel_rfl) ?_
          refine xm_take 6 (m' := 127) rfl (by kernel_rfl) (by first | exact Sb.refl | exact Sb.nil | (repeat (first | exact Sb.nil | exact Sb.refl | exact Sb.app0 | apply Sb.keep | apply Sb.keepApp | apply Sb.cons | apply Sb.app))) (rd_nilCheck rfl) rfl (by kernel_rfl) ?_
          refine xm_take 7 (m' := 255) rfl (by kernel_rfl) (by first | exact Sb.refl | exact Sb.nil | (repeat (first | exact Sb.nil | exact Sb.refl | exact Sb.app0 | apply Sb.keep | apply Sb.keepApp | apply Sb.cons | apply Sb.app))) (rd_fieldAddr rfl) rfl (by kernel_rfl) ?_
          refine xm_take 8 (m' := 511) rfl (by kernel_rfl) (by first | exact Sb.refl | exact Sb.nil | (repeat (first | exact Sb.nil | exact Sb.refl | exact Sb.app0 | apply Sb.keep | apply Sb.keepApp | apply Sb.cons | apply Sb.app))) (rd_load1 rfl (Cl.o0 rfl)) rfl (by kernel_rfl) ?_
          refine xm_take 9 (m' := 1023) rfl (by kernel_rfl) (by first | exact Sb.refl | exact Sb.nil | (repeat (first | exact Sb.nil | exact Sb.refl | exact Sb.app0 | apply Sb.keep | apply Sb.keepApp | apply Sb.cons | apply Sb.app))) (rd_geq rfl rfl) rfl (by kernel_rfl) ?_
          refine xm_take 10 (m' := 2047) rfl (by kernel_rfl) (by first | exact Sb.refl | exact Sb.nil | (repeat (first | exact Sb.nil | exact Sb.refl | exact Sb.app0 | apply Sb.keep | apply Sb.keepApp | apply Sb.cons | apply Sb.app))) (rd_assign rfl) rfl (by kernel_rfl) ?_
          refine xm_done (by kernel_rfl) ?_
          refine xq_seq ?_
          refine xc_dec rfl (fun hz1 => ?_) (fun hz1 => ?_)
          refine xc_seq ?_
          refine xc_region ?_
          refine xo_rd (rd_assign rfl) rfl ?_
          refine xo_nil ?_
          refine xq_seq ?_
          refine xc_ret ?_
          refine xq_block_ret ?_
          refine xq_then_ret ?_
          rotate_left
          refine xc_skip ?_
          refine xq_block ?_
          refine xq_seq ?_
          refine xc_seq ?_
          refine xc_region ?_
          refine xo_rd (rd_move rfl) rfl ?_
          refine xo_rd (rd_move rfl) rfl ?_
          refine xo_rd (rd_nilCheck rfl) rfl ?_
          refine xo_rd (rd_fieldAddr rfl) rfl ?_
          refine xo_rd (rd_load1 rfl (Cl.o0 rfl)) rfl ?_
          refine xo_rd (rd_move rfl) rfl ?_
          refine xo_ef rfl (ef_slice1 rfl rfl rfl fun r56 => ?_)
          refine xo_ef rfl (ef_appendQS [_, _, _] (gl ++ L) wl (news := ints .u32 [w]) rfl rfl hw rfl rs_cons rfl rfl (by decide) (by omega) (by omega) fun wp2 wc2 wl2 hw2 hk2 => ?_)
          refine xo_rd (rd_nilCheck rfl) rfl ?_
          refine xo_rd (rd_fieldAddr rfl) rfl ?_
          refine xo_ef rfl (ef_store1 [_] _ rfl rfl (by first | rfl | assumption) rfl rfl rfl ?_)
          refine xo_nil ?_
          refine xq_seq ?_
          refine xc_seq ?_
          refine xc_region ?_
          refine xo_rd (rd_assign rfl) rfl ?_
          refine xo_nil ?_
          refine xq_seq ?_
          refine xc_ret ?_
          rotate_left
        · have hE : reqE ⟨bound, sil, ms, true, no, who, at', heard, pend, wt, gs⟩ w = 131 := by unfold reqE; dsimp only; rw [hb, if_pos rfl, if_neg hno, if_pos ⟨rfl, by omega⟩]
          exact xq_ret1 (.inl rfl) Try.results47 rfl ⟨by rw [hE], _, hx', by rw [reqF, hE]; rfl, rfl⟩
        · have hE : reqE ⟨bound, sil, ms, true, no, who, at', heard, pend, wt, gs⟩ w = 0 := by unfold reqE; dsimp only; rw [hb, if_pos rfl, if_neg hno, if_neg (by omega)]
          have hy : (Fm.mk ⟨bound, sil, ms, true, no, who, at', heard, pend, wt ++ [w], gs⟩ mb mo wp2 wc2 wl2 gp gc gl).Ok := ⟨hmp, by dsimp only; rw [List.length_append, ints_app]; exact hw2, hgs, hnd, hbd, by dsimp only; rw [List.length_append, List.length_singleton]; omega, hmn⟩
          exact xq_sub (List.sublist_cons_self _ _) (xq_ret1 (.inl rfl) Try.results47 rfl ⟨by rw [hE], _, hy, by rw [reqF, hE]; rfl, by simp only [List.length_append, List.length_singleton]; rfl⟩)
end Go.Proofs.Ytmdeajdaeihniaa.X
