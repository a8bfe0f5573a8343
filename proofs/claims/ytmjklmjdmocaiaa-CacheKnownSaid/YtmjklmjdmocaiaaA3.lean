/-
  The cache's memory, and its functions, by walks of my own.
-/
import Derived.Test.YtmjklmjdmocaiaaA2
namespace Go.Proofs.Ytmjklmjdmocaiaa.X
open Go Go.RowKit
set_option linter.unusedVariables false
/-! ### what the document has -/
structure Pp where
  n : Int
  bs : List Int
  asked : Bool
  tick : Int
structure Sta where
  size : Int
  hold : Int
  l : List Pp
def mx (i j : Int) : Int := if j > i then j else i
def Sta.has (s : Sta) (n : Int) : Option Pp := s.l.find? (fun q => q.n == n)
def cutTo (size : Int) (l : List Pp) : List Pp := if size < l.length then l.tail else l
def Sta.put (s : Sta) (n : Int) (bs : List Int) : Sta := ⟨s.size, s.hold, cutTo s.size (s.l.eraseP (fun q => q.n == n) ++ [⟨n, bs, false, 0⟩])⟩
def Pp.may (p : Pp) (hold now : Int) : Prop := ¬(p.asked = true ∧ mx now p.tick - p.tick < hold)
instance (p : Pp) (hold now : Int) : Decidable (p.may hold now) := by unfold Pp.may; infer_instance
def Pp.ask (now n : Int) (q : Pp) : Pp := if q.n = n then ⟨q.n, q.bs, true, mx now q.tick⟩ else q
def Sta.ask1 (now : Int) (s : Sta × List (List Int)) (n : Int) : Sta × List (List Int) := match s.1.has n with
  | none => s
  | some p => if p.may s.1.hold now then (⟨s.1.size, s.1.hold, s.1.l.map (Pp.ask now n)⟩, s.2 ++ [p.bs]) else s
def Sta.ask (s : Sta) (now : Int) (ns : List Int) : Sta × List (List Int) := ns.foldl (Sta.ask1 now) (s, [])

/-! ### its memory -/
structure Pk where
  n : Int
  bs : List Int
  asked : Bool
  tick : Int
  b : Nat
  v : Value
  l : List Blk
def Pk.pp (p : Pk) : Pp := ⟨p.n, p.bs, p.asked, p.tick⟩
def Pk.cells (p : Pk) : List Value := [p.v, .bool p.asked, .int .u64 p.tick]
def Pk.blks (p : Pk) : List Blk := (p.b, .cells p.cells.toArray 67 (0, 0)) :: p.l
structure Pk.Is (p : Pk) : Prop where
  o : SlO 1 5 p.v p.bs.length (ints .u8 p.bs) p.l
  len : p.bs.length ≤ 1000
  t0 : 0 ≤ p.tick
  t1 : p.tick ≤ 18446744073709551615
structure Ca where
  size : Int
  hold : Int
  ps : List Pk
  c : Nat
  nv : Value
  nl : List Blk
  mb : Nat
  mo : Obj
def Ca.cells (x : Ca) : List Value := [.int .i64 x.size, .int .u64 x.hold, x.nv, .map (some x.mb)]
def Ca.blks (x : Ca) : List Blk := (x.c, .cells x.cells.toArray 62 (0, 0)) :: (x.mb, x.mo) :: (x.nl ++ x.ps.flatMap Pk.blks)
def ptrAt (ps : List Pk) (n : Int) : Option Value := (ps.find? (fun q => q.n == n)).map (fun p => .pointer (some ⟨p.b, 0, none⟩))
structure Ca.Ok (x : Ca) : Prop where
  nums : SlO 1 30 x.nv x.ps.length (ints .u16 (x.ps.map Pk.n)) x.nl
  map : MpIs .u16 x.mo (ptrAt x.ps) x.ps.length
  nod : (x.ps.map Pk.n).Nodup
  pk : ∀ p, p ∈ x.ps → p.Is
  small : x.ps.length ≤ 2000
  sz : 1 ≤ x.size ∧ x.size ≤ 1024
  h0 : 0 ≤ x.hold ∧ x.hold ≤ 18446744073709551615
def Ca.st (x : Ca) : Sta := ⟨x.size, x.hold, x.ps.map Pk.pp⟩

theorem Ca.blks_app (x : Ca) (L : List Blk) : x.blks ++ L = (x.c, .cells x.cells.toArray 62 (0, 0)) :: (x.mb, x.mo) :: (x.nl ++ (x.ps.flatMap Pk.blks ++ L)) := by simp [Ca.blks]
theorem flat_erase {α β : Type} (f : α → List β) : ∀ (l : List α) (i : Nat), ((l.eraseIdx i).flatMap f).Sublist (l.flatMap f)
  | [], i => by simp
  | x :: r, 0 => by rw [List.eraseIdx_cons_zero, List.flatMap_cons]; exact List.sublist_append_right _ _
  | x :: r, i + 1 => by rw [List.eraseIdx_cons_succ, List.flatMap_cons, List.flatMap_cons]; exact (List.Sublist.refl _).append (flat_erase f r i)
theorem ptr_erase : ∀ (ps : List Pk) (i : Nat) (hi : i < ps.length), (ps.map Pk.n).Nodup → mupd (ptrAt ps) ps[i].n none = ptrAt (ps.eraseIdx i)
  | p :: r, 0, hi, hn => by
    funext m
    rw [List.map_cons, List.nodup_cons] at hn
    unfold mupd ptrAt
    simp only [List.getElem_cons_zero, List.eraseIdx_cons_zero, List.find?_cons]
    by_cases h : m = p.n
    · subst h
      rw [if_pos rfl]
      have : r.find? (fun q => q.n == p.n) = none := by
        rw [List.find?_eq_none]
        intro q hq he
        exact hn.1 (List.mem_map.2 ⟨q, hq, by simpa using he⟩)
      rw [this]; rfl
    · rw [if_neg h]
      have : (p.n == m) = false := by simp; exact fun e => h e.symm
      rw [this]
  | p :: r, i + 1, hi, hn => by
    funext m
    rw [List.map_cons, List.nodup_cons] at hn
    have ih := congrFun (ptr_erase r i (by simpa using hi) hn.2) m
    unfold mupd ptrAt at ih ⊢
    simp only [List.getElem_cons_succ, List.eraseIdx_cons_succ, List.find?_cons]
    by_cases h : p.n = m
    · have hi' : i < r.length := by simpa using hi
      have hne : m ≠ (r[i]'hi').n := fun e => hn.1 (List.mem_map.2 ⟨r[i]'hi', List.getElem_mem _, by rw [← e, h]⟩)
      simp [h, hne]
    · have : (p.n == m) = false := by simpa using h
      rw [this]; exact ih
theorem ptr_some : ∀ (ps : List Pk) (i : Nat) (hi : i < ps.length), (ptrAt ps ps[i].n).isSome = true := fun ps i hi => by
  unfold ptrAt
  rw [Option.isSome_map, List.find?_isSome]
  exact ⟨ps[i], List.getElem_mem _, by simp⟩

set_option maxHeartbeats 4000000 in
theorem xf_drop {W : World} {L : List Blk} (x : Ca) (i : Nat) (hx : x.Ok) (hi : i < x.ps.length) : XF Try.prog W 27 #[.pointer (some ⟨x.c, 0, none⟩), .int .i64 i] (x.blks ++ L) (fun v L' => v = .tuple #[] ∧ ∃ nv nl mo, (⟨x.size, x.hold, x.ps.eraseIdx i, x.c, nv, nl, x.mb, mo⟩ : Ca).Ok ∧ L' = (⟨x.size, x.hold, x.ps.eraseIdx i, x.c, nv, nl, x.mb, mo⟩ : Ca).blks ++ L) := by
  obtain ⟨size, hold, ps, c, nv, nl, mb, mo⟩ := x
  obtain ⟨hO, hm, hnod, hpk, hsm, hsz, hh0⟩ := hx
  dsimp only at *
  obtain ⟨p, cc, rfl, hO, hcc⟩ := hO.opn
  rw [Ca.blks_app]
  dsimp only [Ca.cells]
  refine xf_enter (args := [_, _]) Try.func27 rfl Try.ntmps27 rfl ?_
  have hr : Rs W ((c, .cells ([.int .i64 size, .int .u64 hold, .slice p ps.length cc, .map (some mb)] : List Value).toArray 62 (0, 0)) :: nl) p (ints .u16 (ps.map Pk.n)) := hO.rs fun q hq => List.mem_cons_of_mem _ hq
  obtain ⟨b, o, hp, hc⟩ := hr.int (i := i) (by simpa using hi)
  subst hp
  focus
    refine xc_seq ?_
    refine xc_drawM [0, 1, 2, 4, 0, 16, 32, 64, 0, 384, 512, 1032] [0, 1, 2, 4, 0, 16, 32, 64, 0, 384, 512, 1032] ((c, .cells ([.int .i64 size, .int .u64 hold, .slice (some ⟨b, o, none⟩) ps.length cc, .map (some mb)] : List Value).toArray 62 (0, 0)) :: nl) (by kernel_rfl) (by kernel_rfl) (by kernel_rfl) ?_
    refine xm_take 0 (m' := 1) rfl (by kernel_rfl) (by first | exact Sb.refl | exact Sb.nil | (repeat (first | exact Sb.nil | exact Sb.refl | exact Sb.app0 | apply Sb.keep | apply Sb.keepApp | apply Sb.cons | apply Sb.app))) (rd_move rfl) rfl (by kernel_rfl) ?_
    refine xm_take 1 (m' := 3) rfl (by kernel_rfl) (by first | exact Sb.refl | exact Sb.nil | (repeat (first | exact Sb.nil | exact Sb.refl | exact Sb.app0 | apply Sb.keep | apply Sb.keepApp | apply Sb.cons | apply Sb.app))) (rd_nilCheck rfl) rfl (by kernel_rfl) ?_
    refine xm_take 2 (m' := 7) rfl (by kernel_rfl) (by first | exact Sb.refl | exact Sb.nil | (repeat (first | exact Sb.nil | exact Sb.refl | exact Sb.app0 | apply Sb.keep | apply Sb.keepApp | apply Sb.cons | apply Sb.app))) (rd_fieldAddr rfl) rfl (by kernel_rfl) ?_
    refine xm_take 3 (m' := 15) rfl (by kernel_rfl) (by first | exact Sb.refl | exact Sb.nil | (repeat (first | exact Sb.nil | exact Sb.refl | exact Sb.app0 | apply Sb.keep | apply Sb.keepApp | apply Sb.cons | apply Sb.app))) (rd_load1 rfl (Cl.o0 rfl)) rfl (by kernel_rfl) ?_
    refine xm_take 4 (m' := 31) rfl (by kernel_rfl) (by first | exact Sb.refl | exact Sb.nil | (repeat (first | exact Sb.nil | exact Sb.refl | exact Sb.app0 | apply Sb.keep | apply Sb.keepApp | apply Sb.cons | apply Sb.app))) (rd_move rfl) rfl (by kernel_rfl) ?_
    refine xm_take 5 (m' := 63) rfl (by kernel_rfl) (by first | exact Sb.refl | exact Sb.nil | (repeat (first | exact Sb.nil | exact Sb.refl | exact Sb.app0 | apply Sb.keep | apply Sb.keepApp | apply Sb.cons | apply Sb.app))) (rd_nilCheck rfl) rfl (by kernel_rfl) ?_
    refine xm_take 6 (m' := 127) rfl (by kernel_rfl) (by first | exact Sb.refl | exact Sb.nil | (repeat (first | exact Sb.nil | exact Sb.refl | exact Sb.app0 | apply Sb.keep | apply Sb.keepApp | apply Sb.cons | apply Sb.app))) (rd_fieldAddr rfl) rfl (by kernel_rfl) ?_
    refine xm_take 7 (m' := 255) rfl (by kernel_rfl) (by first | exact Sb.refl | exact Sb.nil | (repeat (first | exact Sb.nil | exact Sb.refl | exact Sb.app0 | apply Sb.keep | apply Sb.keepApp | apply Sb.cons | apply Sb.app))) (rd_load1 rfl (Cl.o0 rfl)) rfl (by kernel_rfl) ?_
    refine xm_take 8 (m' := 511) rfl (by kernel_rfl) (by first | exact Sb.refl | exact Sb.nil | (repeat (first | exact Sb.nil | exact Sb.refl | exact Sb.app0 | apply Sb.keep | apply Sb.keepApp | apply Sb.cons | apply Sb.app))) (rd_move rfl) rfl (by kernel_rfl) ?_
    refine xm_take 9 (m' := 1023) rfl (by kernel_rfl) (by first | exact Sb.refl | exact Sb.nil | (repeat (first | exact Sb.nil | exact Sb.refl | exact Sb.app0 | apply Sb.keep | apply Sb.keepApp | apply Sb.cons | apply Sb.app))) (rd_indexAddr rfl rfl (by omega) (by omega)) rfl (by kernel_rfl) ?_
    refine xm_take 10 (m' := 2047) rfl (by kernel_rfl) (by first | exact Sb.refl | exact Sb.nil | (repeat (first | exact Sb.nil | exact Sb.refl | exact Sb.app0 | apply Sb.keep | apply Sb.keepApp | apply Sb.cons | apply Sb.app))) (rd_load1 rfl hc) rfl (by kernel_rfl) ?_
    refine xm_one 11 (m' := 4095) rfl (by kernel_rfl) rfl (by kernel_rfl) (ef_delete [_] _ (by assumption) rfl rfl rfl fun o' ho' => ?_)
    refine ⟨(by first | exact Sb.refl | exact Sb.nil | (repeat (first | exact Sb.nil | exact Sb.refl | exact Sb.app0 | apply Sb.keep | apply Sb.keepApp | apply Sb.cons | apply Sb.app))), ?_⟩
    refine xm_done (by kernel_rfl) ?_
    refine xq_seq ?_
    refine xc_region ?_
    refine xo_rd (rd_move rfl) rfl ?_
    refine xo_rd (rd_move rfl) rfl ?_
    refine xo_rd (rd_nilCheck rfl) rfl ?_
    refine xo_rd (rd_fieldAddr rfl) rfl ?_
    refine xo_rd (rd_load1 rfl (Cl.o0 rfl)) rfl ?_
    refine xo_rd (rd_move rfl) rfl ?_
    refine xo_rd (rd_move rfl) rfl ?_
    refine xo_rd (rd_addn rfl rfl (by omega) (by omega)) rfl ?_
  refine xo_ef rfl (ef_call rfl ((XF.seg [_, _] nl _ (xf_delete _ _ i _ nl hO (ints_one _ _) hi (by omega))).mono ?_))
  rintro v L' ⟨p', c', l', rfl, hO', rfl⟩
  refine xo_seg [_, _] l' _ ?_
  focus
    refine xo_rd (rd_nilCheck rfl) rfl ?_
    refine xo_rd (rd_fieldAddr rfl) rfl ?_
    refine xo_ef rfl (ef_store1 [] _ rfl rfl (by first | rfl | assumption) rfl rfl rfl ?_)
    refine xo_nil ?_
  refine xq_sub (L' := (⟨size, hold, ps.eraseIdx i, c, .slice p' (ps.length - 1) c', l', mb, o'⟩ : Ca).blks ++ L) ?_ ?_
  · rw [Ca.blks_app]
    dsimp only [Ca.cells]
    exact ((((flat_erase Pk.blks ps i).append (List.Sublist.refl L)).append_left _).cons_cons _).cons_cons _
  · have hl : (ps.eraseIdx i).length = ps.length - 1 := by rw [List.length_eraseIdx, if_pos hi]
    have hg : (ps.map Pk.n)[i]'(by simpa using hi) = ps[i].n := by simp
    refine xq_ret0 (.inr rfl) Try.results27 ⟨rfl, _, l', o', ⟨?_, ?_, ?_, ?_, ?_, hsz, hh0⟩, rfl⟩
    · dsimp only
      rw [hl, ← er_map, List.eraseIdx_eq_take_drop_succ, ints_app, ints_take, ints_drop]
      simpa using hO'
    · dsimp only
      rw [hl, ← ptr_erase ps i hi hnod, ← hg]
      rw [hg, if_pos (ptr_some ps i hi), ← hg] at ho'
      exact ho'
    · dsimp only
      rw [← er_map]
      exact hnod.sublist (List.eraseIdx_sublist _ _)
    · exact fun q hq => hpk q (List.mem_of_mem_eraseIdx hq)
    · dsimp only; omega
end Go.Proofs.Ytmjklmjdmocaiaa.X
