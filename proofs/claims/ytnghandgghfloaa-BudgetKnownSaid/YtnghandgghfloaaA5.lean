/-
  The reference's plans in a row: walks of my own.
-/
import Derived.Test.YtnghandgghfloaaA4
namespace Go.Proofs.Ytnghandgghfloaa.X
open Go Go.RowKit
set_option linter.unusedVariables false
set_option linter.unusedSimpArgs false
/-- A plan in new memory. -/
structure Pw where
  cap : Int
  on : List Bool
  v : Value
  l : List Blk
def Pw.enc (w : Pw) : List Value := [.int .i64 w.cap, w.v]
theorem Pw.len (w : Pw) : w.enc.length = 2 := rfl
def Pw.Is (w : Pw) : Prop := SlO 1 4 w.v w.on.length (bls w.on) w.l
def Pw.pl (w : Pw) : Int × List Bool := (w.cap, w.on)
theorem Pw.Is.opn {w : Pw} (h : w.Is) : ∃ p c, w.v = .slice p w.on.length c ∧ SlO 1 4 (.slice p w.on.length c) w.on.length (bls w.on) w.l := by
  obtain ⟨p, c, h1, h2, _⟩ := SlO.opn (show SlO 1 4 w.v w.on.length (bls w.on) w.l from h)
  exact ⟨p, c, h1, h2⟩
def planA (n m : Nat) : List (Int × List Bool) := (List.range n).map fun k : Nat => ((n : Int) - 1 - k, fl m m)
def planB (m : Nat) : List (Int × List Bool) := (List.range m).map fun k : Nat => ((0 : Int), fl m ((m : Int) - (k + 1)))
def plan0 (m : Nat) : List (Int × List Bool) := (List.range (m + 1)).map fun k : Nat => ((-1 : Int), fl m ((m : Int) - k))
def plansOf (n m : Nat) : List (Int × List Bool) := if n = 0 then plan0 m else planA n m ++ planB m ++ [(-1, fl m 0)]
structure PsS where
  k : Nat
  ws : List Pw
  v : Value
  lo : List Blk
structure PsI (m : Nat) (N : Nat) (f : Nat → List (Int × List Bool)) (s : PsS) : Prop where
  k : s.k ≤ N
  o : SlO 2 32 s.v s.ws.length (s.ws.flatMap Pw.enc) s.lo
  is : ∀ w, w ∈ s.ws → w.Is
  pl : s.ws.map Pw.pl = f s.k
  len : s.ws.length ≤ 100
set_option maxHeartbeats 4000000 in
theorem xf_rplans {W : World} {L : List Blk} (p q : Option Addr) (n c m d : Nat) (ct cm : List Int) (hn : ct.length = n) (hm : cm.length = m) (hr : Rs W L p (ints .u64 ct)) (hb : n ≤ 1000) (hb2 : m ≤ 1000) (hR : Rgt ct cm) : XF Try.prog W 16 #[.agg #[.slice p n c, .slice q m d]] L (fun v L' => ∃ s k lo ws, v = .slice s (ws : List Pw).length k ∧ SlO 2 32 (.slice s ws.length k) ws.length (ws.flatMap Pw.enc) lo ∧ (∀ w, w ∈ ws → w.Is) ∧ ws.map Pw.pl = plansOf n m ∧ L' = lo ++ (ws.flatMap Pw.l ++ L)) := by
  have hn4 : n ≤ 4 := by have := hR.1; omega
  have hm32 : m ≤ 32 := by have := hR.2.1; omega
  refine xf_enter (args := [_]) Try.func16 rfl Try.ntmps16 rfl ?_
  focus
    refine xc_seq ?_
    refine xc_region ?_
    refine xo_ef rfl (ef_box rfl fun r1 => ?_)
    refine xo_rd (rd_assign rfl) rfl ?_
    refine xo_nil ?_
    refine xq_seq ?_
    refine xc_seq ?_
    refine xc_region ?_
    refine xo_rd (rd_assign rfl) rfl ?_
    refine xo_nil ?_
    refine xq_seq ?_
    refine xc_seq ?_
    refine xc_seq ?_
    refine xc_region ?_
    refine xo_rd (rd_loadB rfl Kn.o0 (by rfl)) rfl ?_
  refine xo_ef rfl (ef_call rfl (XF.mono (xf_rright p q n c m d ct cm hn hm hr.skip (by omega) (by omega)) ?_))
  rintro v L' ⟨⟨b, rfl, hb⟩, rfl⟩
  obtain rfl : b = true := hb.2 hR
  focus
    refine xo_rd (rd_not rfl) rfl ?_
    refine xo_nil ?_
    refine xq_seq ?_
    refine xc_condf rfl ?_
    refine xc_skip ?_
    refine xq_seq ?_
    refine xc_seq ?_
    refine xc_region ?_
    refine xo_rd (rd_fieldAddr rfl) rfl ?_
    refine xo_rd (rd_load1 rfl (Cl.o0 rfl)) rfl ?_
    refine xo_rd (rd_len rfl) rfl ?_
    refine xo_rd (rd_assign rfl) rfl ?_
    refine xo_nil ?_
    refine xq_seq ?_
    refine xc_seq ?_
    refine xc_seq ?_
    refine xc_region ?_
    refine xo_rd (rd_fieldAddr rfl) rfl ?_
    refine xo_rd (rd_load1 rfl (Cl.o0 rfl)) rfl ?_
    refine xo_rd (rd_len rfl) rfl ?_
    refine xo_rd (rd_eql rfl rfl) rfl ?_
    refine xo_nil ?_
    refine xq_seq ?_
    refine xc_dec rfl (fun hz1 => ?_) (fun hz1 => ?_)
    refine xc_seq ?_
    refine xc_seq ?_
    refine xc_region ?_
    refine xo_rd (rd_assign rfl) rfl ?_
    refine xo_nil ?_
    refine xq_seq ?_
    refine xc_block ?_
    rotate_left
    refine xc_skip ?_
    refine xq_seq ?_
    rotate_left
  · have hn0 : n = 0 := by omega
    refine xc_loopI (ι := PsS) (PsI m (m + 1) fun k => (plan0 m).take k) (fun s => m + 1 - s.k) (fun s => (r1, .cells #[.slice p n c, .slice q m d] 28 (0, 0)) :: (s.lo ++ (s.ws.flatMap Pw.l ++ L))) (fun s => [(1, .pointer (some ⟨r1, 0, none⟩)), (3, s.v), (4, .int .i64 m), (5, .int .i64 s.k)]) ⟨0, [], .slice none 0 0, []⟩ ⟨Nat.zero_le _, SlO.nil, (fun _ h => by cases h), rfl, Nat.zero_le _⟩ rfl (by repeat (first | exact keep_nil | refine keep_cons rfl ?_)) ?_
    rintro ⟨k, ws, v, lo⟩ ⟨hk, hO, his, hpl, hlen⟩
    dsimp only at hk hO his hpl hlen ⊢
    have hl2 : ws.length ≤ k := by have := congrArg List.length hpl; simp [plan0] at this; omega
    focus
      refine xc_seq ?_
      refine xc_seq ?_
      refine xc_region ?_
      refine xo_rd (rd_move rfl) rfl ?_
      refine xo_rd (rd_move rfl) rfl ?_
      refine xo_rd (rd_leq rfl rfl) rfl ?_
      refine xo_nil ?_
      refine xq_seq ?_
      refine xc_dec rfl (fun hk1 => ?_) (fun hk1 => ?_)
      refine xc_skip ?_
      refine xq_seq ?_
      refine xc_seq ?_
      refine xc_block ?_
      refine xc_region ?_
      refine xo_rd (rd_move rfl) rfl ?_
      refine xo_rd (rd_loadB rfl Kn.o0 (by rfl)) rfl ?_
      refine xo_rd (rd_move rfl) rfl ?_
      refine xo_rd (rd_move rfl) rfl ?_
      refine xo_rd (rd_subn rfl rfl (by omega) (by omega)) rfl ?_
      rotate_left
      refine xc_exit ?_
      refine xq_then_exit ?_
      refine xq_then_exit ?_
      refine xq_block_hit ?_
      refine xq_seq ?_
      refine xc_seq ?_
      refine xc_region ?_
      refine xo_rd (rd_move rfl) rfl ?_
      refine xo_rd (rd_assign rfl) rfl ?_
      refine xo_nil ?_
      refine xq_seq ?_
      refine xc_ret ?_
      refine xq_then_ret ?_
      rotate_left
    · have hw : (⟨(-1), fl m ((m : Int) - k), .slice none 0 0, []⟩ : Pw).on.length = m := fl_len _ _
      refine xo_ef rfl (ef_call rfl (XF.mono (xf_first p q n c m d (-1) ((m : Int) - k) (by omega)) ?_))
      rintro v' L' ⟨s, k', l, rfl, hS, rfl⟩
      have hwi : (⟨(-1), fl m ((m : Int) - k), .slice s m k', l⟩ : Pw).Is := by unfold Pw.Is; dsimp only; rw [fl_len]; exact hS
      focus
        refine xo_ef rfl (ef_sliceA (vs := (⟨(-1), fl m ((m : Int) - k), .slice s m k', l⟩ : Pw).enc) rfl rfl (by rw [Pw.len]; decide) (by rw [Pw.len]; decide) fun r30 => ?_)
      refine xo_ef rfl (ef_append ((r30, .cells (⟨(-1), fl m ((m : Int) - k), .slice s m k', l⟩ : Pw).enc.toArray 32 (0, 0)) :: (l ++ [(r1, .cells #[.slice p n c, .slice q m d] 28 (0, 0))])) (ws.flatMap Pw.l ++ L) lo rfl rfl hO (by simp) (Rs.fresh (List.Mem.head _)) rfl rfl (by decide) (by omega) (by omega) fun v3 lo3 hO3 => ?_)
      refine xo_tail ?_
      focus
        refine xo_rd (rd_assign rfl) rfl ?_
        refine xo_nil ?_
        refine xq_block ?_
        refine xq_seq ?_
        refine xc_region ?_
        refine xo_rd (rd_move rfl) rfl ?_
        refine xo_rd (rd_addn rfl rfl (by omega) (by omega)) rfl ?_
        refine xo_rd (rd_assign rfl) rfl ?_
        refine xo_nil ?_
      refine xq_perm (L' := (r1, .cells #[.slice p n c, .slice q m d] 28 (0, 0)) :: (lo3 ++ ((ws.flatMap Pw.l ++ l) ++ L))) (by classical exact List.perm_iff_count.2 fun a => by simp only [List.append_eq, List.count_append, List.count_cons, List.count_nil, List.cons_append, List.nil_append, List.flatMap_append, List.flatMap_cons, List.flatMap_nil, List.append_nil]; omega) ?_
      refine xq_roundI (⟨k + 1, ws ++ [⟨(-1), fl m ((m : Int) - k), .slice s m k', l⟩], v3, lo3⟩ : PsS) ⟨by dsimp only; omega, by dsimp only; rw [List.flatMap_append, List.length_append]; simpa using hO3, fun w hw => ?_, ?_, ?_⟩ (by dsimp only; omega) (by simp) (by repeat (first | exact keep_nil | refine keep_cons rfl ?_))
      · rcases List.mem_append.1 hw with hw | hw
        · exact his w hw
        · rw [List.mem_singleton] at hw; subst hw; exact hwi
      · dsimp only
        rw [List.map_append, hpl]
        rw [show (plan0 m).take (k + 1) = (plan0 m).take k ++ [((-1 : Int), fl m ((m : Int) - k))] from by rw [List.take_add_one, List.getElem?_eq_getElem (by simp [plan0]; omega)]; simp [plan0]]; rfl
      · dsimp only
        rw [List.length_append]; simp only [List.length_cons, List.length_nil]
        omega
    · have hall : (plan0 m).take k = plan0 m := List.take_of_length_le (by simp [plan0]; omega)
      rw [hall] at hpl
      obtain ⟨s, k', rfl, hO, _⟩ := hO.opn
      exact xq_sub (L' := lo ++ (ws.flatMap Pw.l ++ L)) (List.sublist_cons_self _ _) (xq_ret1 (.inl rfl) Try.results16 rfl ⟨s, k', lo, ws, rfl, hO, his, by unfold plansOf; rw [if_pos hn0]; exact hpl, rfl⟩)
  · have hn0 : n ≠ 0 := by omega
    refine xc_join (ι := PsS) (PsI m n fun _ => planA n m) (fun s => (r1, .cells #[.slice p n c, .slice q m d] 28 (0, 0)) :: (s.lo ++ (s.ws.flatMap Pw.l ++ L))) (fun s => [(1, .pointer (some ⟨r1, 0, none⟩)), (3, s.v), (4, .int .i64 m)]) ?_ ?_
    · focus
        refine xc_seq ?_
        refine xc_region ?_
        refine xo_rd (rd_assign rfl) rfl ?_
        refine xo_nil ?_
        refine xq_seq ?_
        refine xc_block ?_
      refine xc_loopI (ι := PsS) (PsI m n fun k => (planA n m).take k) (fun s => n - s.k) (fun s => (r1, .cells #[.slice p n c, .slice q m d] 28 (0, 0)) :: (s.lo ++ (s.ws.flatMap Pw.l ++ L))) (fun s => [(1, .pointer (some ⟨r1, 0, none⟩)), (3, s.v), (4, .int .i64 m), (6, .int .i64 s.k)]) ⟨0, [], .slice none 0 0, []⟩ ⟨Nat.zero_le _, SlO.nil, (fun _ h => by cases h), rfl, Nat.zero_le _⟩ rfl (by repeat (first | exact keep_nil | refine keep_cons rfl ?_)) ?_
      rintro ⟨k, ws, v, lo⟩ ⟨hk, hO, his, hpl, hlen⟩
      dsimp only at hk hO his hpl hlen ⊢
      have hl2 : ws.length ≤ k := by have := congrArg List.length hpl; simp [planA] at this; omega
      focus
        refine xc_seq ?_
        refine xc_seq ?_
        refine xc_region ?_
        refine xo_rd (rd_move rfl) rfl ?_
        refine xo_rd (rd_fieldAddr rfl) rfl ?_
        refine xo_rd (rd_load1 rfl (Cl.o0 rfl)) rfl ?_
        refine xo_rd (rd_len rfl) rfl ?_
        refine xo_rd (rd_lss rfl rfl) rfl ?_
        refine xo_nil ?_
        refine xq_seq ?_
        refine xc_dec rfl (fun hk1 => ?_) (fun hk1 => ?_)
        refine xc_skip ?_
        refine xq_seq ?_
        refine xc_seq ?_
        refine xc_block ?_
        refine xc_region ?_
        refine xo_rd (rd_move rfl) rfl ?_
        refine xo_rd (rd_loadB rfl Kn.o0 (by rfl)) rfl ?_
        refine xo_rd (rd_fieldAddr rfl) rfl ?_
        refine xo_rd (rd_load1 rfl (Cl.o0 rfl)) rfl ?_
        refine xo_rd (rd_len rfl) rfl ?_
        refine xo_rd (rd_subn rfl rfl (by omega) (by omega)) rfl ?_
        refine xo_rd (rd_move rfl) rfl ?_
        refine xo_rd (rd_subn rfl rfl (by omega) (by omega)) rfl ?_
        refine xo_rd (rd_move rfl) rfl ?_
        rotate_left
        refine xc_exit ?_
        refine xq_then_exit ?_
        refine xq_then_exit ?_
        refine xq_block_hit ?_
        rotate_left
      · have hw : (⟨((n : Int) - 1 - k), fl m (m : Int), .slice none 0 0, []⟩ : Pw).on.length = m := fl_len _ _
        refine xo_ef rfl (ef_call rfl (XF.mono (xf_first p q n c m d ((n : Int) - 1 - k) (m : Int) (by omega)) ?_))
        rintro v' L' ⟨s, k', l, rfl, hS, rfl⟩
        have hwi : (⟨((n : Int) - 1 - k), fl m (m : Int), .slice s m k', l⟩ : Pw).Is := by unfold Pw.Is; dsimp only; rw [fl_len]; exact hS
        focus
          refine xo_ef rfl (ef_sliceA (vs := (⟨((n : Int) - 1 - k), fl m (m : Int), .slice s m k', l⟩ : Pw).enc) rfl rfl (by rw [Pw.len]; decide) (by rw [Pw.len]; decide) fun r50 => ?_)
        refine xo_ef rfl (ef_append ((r50, .cells (⟨((n : Int) - 1 - k), fl m (m : Int), .slice s m k', l⟩ : Pw).enc.toArray 32 (0, 0)) :: (l ++ [(r1, .cells #[.slice p n c, .slice q m d] 28 (0, 0))])) (ws.flatMap Pw.l ++ L) lo rfl rfl hO (by simp) (Rs.fresh (List.Mem.head _)) rfl rfl (by decide) (by omega) (by omega) fun v3 lo3 hO3 => ?_)
        refine xo_tail ?_
        focus
          refine xo_rd (rd_assign rfl) rfl ?_
          refine xo_nil ?_
          refine xq_block ?_
          refine xq_seq ?_
          refine xc_region ?_
          refine xo_rd (rd_move rfl) rfl ?_
          refine xo_rd (rd_addn rfl rfl (by omega) (by omega)) rfl ?_
          refine xo_rd (rd_assign rfl) rfl ?_
          refine xo_nil ?_
        refine xq_perm (L' := (r1, .cells #[.slice p n c, .slice q m d] 28 (0, 0)) :: (lo3 ++ ((ws.flatMap Pw.l ++ l) ++ L))) (by classical exact List.perm_iff_count.2 fun a => by simp only [List.append_eq, List.count_append, List.count_cons, List.count_nil, List.cons_append, List.nil_append, List.flatMap_append, List.flatMap_cons, List.flatMap_nil, List.append_nil]; omega) ?_
        refine xq_roundI (⟨k + 1, ws ++ [⟨((n : Int) - 1 - k), fl m (m : Int), .slice s m k', l⟩], v3, lo3⟩ : PsS) ⟨by dsimp only; omega, by dsimp only; rw [List.flatMap_append, List.length_append]; simpa using hO3, fun w hw => ?_, ?_, ?_⟩ (by dsimp only; omega) (by simp) (by repeat (first | exact keep_nil | refine keep_cons rfl ?_))
        · rcases List.mem_append.1 hw with hw | hw
          · exact his w hw
          · rw [List.mem_singleton] at hw; subst hw; exact hwi
        · dsimp only
          rw [List.map_append, hpl]
          rw [show (planA n m).take (k + 1) = (planA n m).take k ++ [((n : Int) - 1 - k, fl m m)] from by rw [List.take_add_one, List.getElem?_eq_getElem (by simp [planA]; omega)]; simp [planA]]; rfl
        · dsimp only
          rw [List.length_append]; simp only [List.length_cons, List.length_nil]
          omega
      · have hall : (planA n m).take k = planA n m := List.take_of_length_le (by simp [planA]; omega)
        rw [hall] at hpl
        exact xq_joined (⟨k, ws, v, lo⟩ : PsS) ⟨hk, hO, his, hpl, hlen⟩ rfl (by repeat (first | exact keep_nil | refine keep_cons rfl ?_))
    · rintro ⟨k0, ws0, v0, lo0⟩ ⟨_, hO0, his0, hpl0, hlen0⟩
      dsimp only at hO0 his0 hpl0 hlen0 ⊢
      refine xc_join (ι := PsS) (PsI m m fun _ => planA n m ++ planB m) (fun s => (r1, .cells #[.slice p n c, .slice q m d] 28 (0, 0)) :: (s.lo ++ (s.ws.flatMap Pw.l ++ L))) (fun s => [(1, .pointer (some ⟨r1, 0, none⟩)), (3, s.v)]) ?_ ?_
      · focus
          refine xc_seq ?_
          refine xc_region ?_
          refine xo_rd (rd_assign rfl) rfl ?_
          refine xo_nil ?_
          refine xq_seq ?_
          refine xc_block ?_
        refine xc_loopI (ι := PsS) (PsI m m fun k => planA n m ++ (planB m).take k) (fun s => m - s.k) (fun s => (r1, .cells #[.slice p n c, .slice q m d] 28 (0, 0)) :: (s.lo ++ (s.ws.flatMap Pw.l ++ L))) (fun s => [(1, .pointer (some ⟨r1, 0, none⟩)), (3, s.v), (4, .int .i64 m), (7, .int .i64 ((s.k : Int) + 1))]) ⟨0, ws0, v0, lo0⟩ ⟨Nat.zero_le _, hO0, his0, by dsimp only; rw [hpl0]; simp, hlen0⟩ rfl (by repeat (first | exact keep_nil | refine keep_cons rfl ?_)) ?_
        rintro ⟨k, ws, v, lo⟩ ⟨hk, hO, his, hpl, hlen⟩
        dsimp only at hk hO his hpl hlen ⊢
        have hl2 : ws.length ≤ n + k := by have := congrArg List.length hpl; simp [planA, planB] at this; omega
        focus
          refine xc_seq ?_
          refine xc_seq ?_
          refine xc_region ?_
          refine xo_rd (rd_move rfl) rfl ?_
          refine xo_rd (rd_move rfl) rfl ?_
          refine xo_rd (rd_leq rfl rfl) rfl ?_
          refine xo_nil ?_
          refine xq_seq ?_
          refine xc_dec rfl (fun hk1 => ?_) (fun hk1 => ?_)
          refine xc_skip ?_
          refine xq_seq ?_
          refine xc_seq ?_
          refine xc_block ?_
          refine xc_region ?_
          refine xo_rd (rd_move rfl) rfl ?_
          refine xo_rd (rd_loadB rfl Kn.o0 (by rfl)) rfl ?_
          refine xo_rd (rd_move rfl) rfl ?_
          refine xo_rd (rd_move rfl) rfl ?_
          refine xo_rd (rd_subn rfl rfl (by omega) (by omega)) rfl ?_
          rotate_left
          refine xc_exit ?_
          refine xq_then_exit ?_
          refine xq_then_exit ?_
          refine xq_block_hit ?_
          rotate_left
        · have hw : (⟨0, fl m ((m : Int) - (k + 1)), .slice none 0 0, []⟩ : Pw).on.length = m := fl_len _ _
          refine xo_ef rfl (ef_call rfl (XF.mono (xf_first p q n c m d 0 ((m : Int) - (k + 1)) (by omega)) ?_))
          rintro v' L' ⟨s, k', l, rfl, hS, rfl⟩
          have hwi : (⟨0, fl m ((m : Int) - (k + 1)), .slice s m k', l⟩ : Pw).Is := by unfold Pw.Is; dsimp only; rw [fl_len]; exact hS
          focus
            refine xo_ef rfl (ef_sliceA (vs := (⟨0, fl m ((m : Int) - (k + 1)), .slice s m k', l⟩ : Pw).enc) rfl rfl (by rw [Pw.len]; decide) (by rw [Pw.len]; decide) fun r63 => ?_)
          refine xo_ef rfl (ef_append ((r63, .cells (⟨0, fl m ((m : Int) - (k + 1)), .slice s m k', l⟩ : Pw).enc.toArray 32 (0, 0)) :: (l ++ [(r1, .cells #[.slice p n c, .slice q m d] 28 (0, 0))])) (ws.flatMap Pw.l ++ L) lo rfl rfl hO (by simp) (Rs.fresh (List.Mem.head _)) rfl rfl (by decide) (by omega) (by omega) fun v3 lo3 hO3 => ?_)
          refine xo_tail ?_
          focus
            refine xo_rd (rd_assign rfl) rfl ?_
            refine xo_nil ?_
            refine xq_block ?_
            refine xq_seq ?_
            refine xc_region ?_
            refine xo_rd (rd_move rfl) rfl ?_
            refine xo_rd (rd_addn rfl rfl (by omega) (by omega)) rfl ?_
            refine xo_rd (rd_assign rfl) rfl ?_
            refine xo_nil ?_
          refine xq_perm (L' := (r1, .cells #[.slice p n c, .slice q m d] 28 (0, 0)) :: (lo3 ++ ((ws.flatMap Pw.l ++ l) ++ L))) (by classical exact List.perm_iff_count.2 fun a => by simp only [List.append_eq, List.count_append, List.count_cons, List.count_nil, List.cons_append, List.nil_append, List.flatMap_append, List.flatMap_cons, List.flatMap_nil, List.append_nil]; omega) ?_
          refine xq_roundI (⟨k + 1, ws ++ [⟨0, fl m ((m : Int) - (k + 1)), .slice s m k', l⟩], v3, lo3⟩ : PsS) ⟨by dsimp only; omega, by dsimp only; rw [List.flatMap_append, List.length_append]; simpa using hO3, fun w hw => ?_, ?_, ?_⟩ (by dsimp only; omega) (by simp) (by repeat (first | exact keep_nil | refine keep_cons rfl ?_))
          · rcases List.mem_append.1 hw with hw | hw
            · exact his w hw
            · rw [List.mem_singleton] at hw; subst hw; exact hwi
          · dsimp only
            rw [List.map_append, hpl]
            rw [show (planB m).take (k + 1) = (planB m).take k ++ [((0 : Int), fl m ((m : Int) - (k + 1)))] from by rw [List.take_add_one, List.getElem?_eq_getElem (by simp [planB]; omega)]; simp [planB], ← List.append_assoc]; rfl
          · dsimp only
            rw [List.length_append]; simp only [List.length_cons, List.length_nil]
            omega
        · have hall : (planB m).take k = planB m := List.take_of_length_le (by simp [planB]; omega)
          rw [hall] at hpl
          exact xq_joined (⟨k, ws, v, lo⟩ : PsS) ⟨hk, hO, his, hpl, hlen⟩ rfl (by repeat (first | exact keep_nil | refine keep_cons rfl ?_))
      · rintro ⟨k, ws, v, lo⟩ ⟨_, hO, his, hpl, hlen⟩
        dsimp only at hO his hpl hlen ⊢
        have hl2 : ws.length ≤ n + m := by have := congrArg List.length hpl; simp [planA, planB] at this; omega
        focus
          refine xc_seq ?_
          refine xc_region ?_
          refine xo_rd (rd_move rfl) rfl ?_
          refine xo_rd (rd_loadB rfl Kn.o0 (by rfl)) rfl ?_
        refine xo_ef rfl (ef_call rfl (XF.mono (xf_first p q n c m d (-1) 0 (by omega)) ?_))
        rintro v' L' ⟨s, k', l, rfl, hS, rfl⟩
        have hwi : (⟨(-1), fl m 0, .slice s m k', l⟩ : Pw).Is := by unfold Pw.Is; dsimp only; rw [fl_len]; exact hS
        focus
          refine xo_ef rfl (ef_sliceA (vs := (⟨(-1), fl m 0, .slice s m k', l⟩ : Pw).enc) rfl rfl (by rw [Pw.len]; decide) (by rw [Pw.len]; decide) fun r68 => ?_)
        refine xo_ef rfl (ef_appendS ((r68, .cells (⟨(-1), fl m 0, .slice s m k', l⟩ : Pw).enc.toArray 32 (0, 0)) :: (l ++ [(r1, .cells #[.slice p n c, .slice q m d] 28 (0, 0))])) (ws.flatMap Pw.l ++ L) lo rfl rfl hO (by simp) (Rs.fresh (List.Mem.head _)) rfl rfl (by decide) (by omega) (by omega) fun q3 c3 lo3 hO3 hc3 => ?_)
        refine xo_tail ?_
        focus
          refine xo_rd (rd_assign rfl) rfl ?_
          refine xo_nil ?_
          refine xq_seq ?_
          refine xc_ret ?_
        refine xq_perm (L' := (r1, .cells #[.slice p n c, .slice q m d] 28 (0, 0)) :: (lo3 ++ ((ws.flatMap Pw.l ++ l) ++ L))) (by classical exact List.perm_iff_count.2 fun a => by simp only [List.append_eq, List.count_append, List.count_cons, List.count_nil, List.cons_append, List.nil_append, List.flatMap_append, List.flatMap_cons, List.flatMap_nil, List.append_nil]; omega) ?_
        refine xq_sub (L' := lo3 ++ ((ws.flatMap Pw.l ++ l) ++ L)) (List.sublist_cons_self _ _) (xq_ret1 (.inl rfl) Try.results16 rfl ⟨q3, c3, lo3, ws ++ [⟨(-1), fl m 0, .slice s m k', l⟩], ?_, ?_, fun w hw => ?_, ?_, ?_⟩)
        · rw [List.length_append]; rfl
        · rw [List.flatMap_append, List.length_append]; simpa using hO3
        · rcases List.mem_append.1 hw with hw | hw
          · exact his w hw
          · rw [List.mem_singleton] at hw; subst hw; exact hwi
        · rw [List.map_append, hpl]; unfold plansOf; rw [if_neg hn0]; rfl
        · simp
theorem xf_rplans_bad {W : World} {L : List Blk} (p q : Option Addr) (n c m d : Nat) (ct cm : List Int) (hn : ct.length = n) (hm : cm.length = m) (hr : Rs W L p (ints .u64 ct)) (hb : n ≤ 1000) (hb2 : m ≤ 1000) (hR : ¬ Rgt ct cm) : XF Try.prog W 16 #[.agg #[.slice p n c, .slice q m d]] L (fun v L' => v = .slice none 0 0 ∧ L' = L) := by
  refine xf_enter (args := [_]) Try.func16 rfl Try.ntmps16 rfl ?_
  focus
    refine xc_seq ?_
    refine xc_region ?_
    refine xo_ef rfl (ef_box rfl fun r1 => ?_)
    refine xo_rd (rd_assign rfl) rfl ?_
    refine xo_nil ?_
    refine xq_seq ?_
    refine xc_seq ?_
    refine xc_region ?_
    refine xo_rd (rd_assign rfl) rfl ?_
    refine xo_nil ?_
    refine xq_seq ?_
    refine xc_seq ?_
    refine xc_seq ?_
    refine xc_region ?_
    refine xo_rd (rd_loadB rfl Kn.o0 (by rfl)) rfl ?_
  refine xo_ef rfl (ef_call rfl (XF.mono (xf_rright p q n c m d ct cm hn hm hr.skip (by omega) (by omega)) ?_))
  rintro v L' ⟨⟨b, rfl, hb⟩, rfl⟩
  obtain rfl : b = false := by cases b; rfl; exact absurd (hb.1 rfl) hR
  focus
    refine xo_rd (rd_not rfl) rfl ?_
    refine xo_nil ?_
    refine xq_seq ?_
    refine xc_condt rfl ?_
    refine xc_seq ?_
    refine xc_region ?_
    refine xo_rd (rd_move rfl) rfl ?_
    refine xo_rd (rd_assign rfl) rfl ?_
    refine xo_nil ?_
    refine xq_seq ?_
    refine xc_ret ?_
    refine xq_then_ret ?_
    exact xq_tail (xq_ret1 (.inl rfl) Try.results16 rfl (⟨rfl, rfl⟩))
end Go.Proofs.Ytnghandgghfloaa.X
