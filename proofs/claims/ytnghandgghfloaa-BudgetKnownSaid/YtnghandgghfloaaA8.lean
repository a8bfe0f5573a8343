/-
  The iterator over all plans: its contract, by a walk of my own.
-/
import Derived.Test.YtnghandgghfloaaA7
namespace Go.Proofs.Ytnghandgghfloaa.X
open Go Go.RowKit
set_option linter.unusedVariables false
set_option linter.unusedSimpArgs false
/-- A plan in new memory, of so many cameras. -/
abbrev Pm (m : Nat) : Type := { w : Pw // w.Is ∧ w.on.length = m }
theorem callsIn_enter {P : Program} {W : World} {fn : Func} {c : Code} {f : FuncId} {args : List Value} {n : Nat} {L : List Blk} {R : Ending → World → Prop} (hf : P.funcs[f]? = some fn) (hb : fn.body = some c) (hn : fn.ntmps = n) (hl : Nat.ble args.length n = true)
    (h : XCI Fence.wide 0 [] P W n c (bodyPostM Fence.wide 0 P fn R) L (zipArgs 0 args)) : ∀ w, Hp W w L → CallsIn Fence.wide 0 P f args.toArray w R := fun w hw => by
  have he : Env n { tmps := args.toArray ++ Array.replicate (fn.ntmps - args.toArray.size) undef, defers := [] } (zipArgs 0 args) := by
    refine ⟨rfl, ?_, fun i v hv => ?_⟩
    · have : args.length ≤ n := by simpa [Nat.ble_eq] using hl
      simp [hn]; omega
    · obtain ⟨_, h2⟩ := lk_zipArgs args 0 i v hv
      have h3 := (List.getElem?_eq_some_iff.1 h2).1
      simp only [Nat.sub_zero] at h2 h3
      rw [Array.getElem?_append_left (by simpa using h3)]
      simpa using h2
  have h1 := h.run _ w he hw
  rw [Act.ds_nil he] at h1
  exact callsIn_of_wp_marks hf hb trivial h1
theorem xci_tail0 {F : Fence} {m : Nat} {P : Program} {W : World} {n : Nat} {y : Code} {Q Q0 : Exit → Go.Act → World → Prop} {L : List Blk} {E : List (Nat × Value)} (h : XCI F m [] P W n y Q L E) : XQ W n (Exit.then (fun a w => y.wpIn F m P Q a w) Q0) .normal L E := .mk fun a w ha hw => by
  have := h.run a w ha hw
  rwa [Act.ds_nil ha] at this
/-- The iterator returns: nothing. -/
theorem xqR {P : Program} {W : World} {n : Nat} {fn : Func} {R : Ending → World → Prop} {L : List Blk} {E : List (Nat × Value)} {e : Exit} (he : e = .ret ∨ e = .normal) (hr : fn.results = #[]) (h : ∀ w, Hp W w L → R (.returned (.tuple #[])) w) : XQ W n (bodyPostM Fence.wide 0 P fn R) e L E := .mk fun a w ha hw => by
  have hres : (results fn a.tmps).run P w = .ok (.tuple #[]) w := results_none hr _ _ _
  rcases he with rfl | rfl
  · show LeavesInM _ _ _ _ _ _ a.defers _ _
    rw [ha.defers]
    exact ⟨_, hres, h w hw⟩
  · show LeavesInM _ _ _ _ _ _ a.defers _ _
    rw [ha.defers]
    exact ⟨_, hres, h w hw⟩
theorem xq_d0 {W : World} {n : Nat} {Q : Exit → Go.Act → World → Prop} {e : Exit} {L : List Blk} {E : List (Nat × Value)} (h : XQ W n Q e L E) : XQ W n (Qd [] Q) e L E := .mk fun a w ha hw => by
  show Q e (Act.ds a []) w
  rw [Act.ds_nil ha]; exact h.run a w ha hw
theorem xqi_round0 {W : World} {n : Nat} {Q : Exit → Go.Act → World → Prop} {L : List Blk} {E : List (Nat × Value)} {ι : Type} {I : ι → Prop} {μ : ι → Nat} {Ls : ι → List Blk} {Es : ι → List (Nat × Value)} {k : Nat} (j : ι) (hj : I j) (hm : μ j < k) (hL : L = Ls j) (hE : ∀ k v, lk (Es j) k = some v → lk E k = some v) :
    XQ W n (Exit.then (fun a w => ∃ b, a = Act.ds b [] ∧ ∃ j, I j ∧ μ j < k ∧ Env n b (Es j) ∧ Hp W w (Ls j)) Q) .normal L E := .mk fun a w ha hw => by
  have := (xqi_round (ds := []) (Q := Q) j hj hm hL hE).run a w ha hw
  unfold Qd at this
  rwa [Act.ds_nil ha] at this
noncomputable def pls (ct cm : List Int) : List (Int × List Bool) := by classical exact if Rgt ct cm then plansOf ct.length cm.length else []
def pA (n m : Nat) : List (Int × List Bool) := (List.range (n - 1)).map fun k : Nat => ((n : Int) - 1 - k, fl m m)
def pC (b : Int) (m : Nat) : List (Int × List Bool) := (List.range (m + 1)).map fun k : Nat => (b, fl m ((m : Int) - k))
def bs (n : Nat) : Int := if (n : Int) - 1 < 0 then (n : Int) - 1 else 0
theorem plans_split (n m : Nat) : plansOf n m = pA n m ++ pC (bs n) m ++ if n = 0 then [] else [(-1, fl m 0)] := by
  unfold plansOf
  by_cases h : n = 0
  · subst h
    have h1 : bs 0 = -1 := rfl
    rw [h1]
    simp [pA, pC, plan0]
  · rw [if_neg h, if_neg h]
    obtain ⟨n, rfl⟩ : ∃ n', n = n' + 1 := ⟨n - 1, by omega⟩
    have h1 : bs (n + 1) = 0 := by unfold bs; rw [if_neg (by omega)]
    rw [h1]
    congr 1
    unfold planA planB pA pC
    have e1 : (List.range (n + 1)).map (fun k : Nat => ((((n + 1 : Nat) : Int)) - 1 - k, fl m m)) = (List.range (n + 1 - 1)).map (fun k : Nat => ((((n + 1 : Nat) : Int)) - 1 - k, fl m m)) ++ [(0, fl m m)] := by
      rw [List.range_succ, List.map_append]; simp
    have e2 : (List.range (m + 1)).map (fun k : Nat => ((0 : Int), fl m ((m : Int) - k))) = (0, fl m m) :: (List.range m).map (fun k : Nat => ((0 : Int), fl m ((m : Int) - (k + 1)))) := by
      rw [List.range_succ_eq_map, List.map_cons, List.map_map]
      simp
    rw [e1, e2, List.append_assoc]; rfl
theorem pA_take (n m k : Nat) (h : k < n - 1) : (pA n m).take (k + 1) = (pA n m).take k ++ [((n : Int) - 1 - k, fl m m)] := by
  rw [List.take_add_one, List.getElem?_eq_getElem (by simp [pA]; omega)]; simp [pA]
theorem pC_take (b : Int) (m k : Nat) (h : k < m + 1) : (pC b m).take (k + 1) = (pC b m).take k ++ [(b, fl m ((m : Int) - k))] := by
  rw [List.take_add_one, List.getElem?_eq_getElem (by simp [pC]; omega)]; simp [pC]
structure ItS (m : Nat) where
  k : Nat
  t : Int
  pre : List (Pm m)
  L : List Blk
set_option maxHeartbeats 2000000 in
theorem it_all {W : World} (L0 : List Blk) (r : Nat) (p q : Option Addr) (n c m d : Nat) (ct cm : List Int) (hn : ct.length = n) (hm : cm.length = m) (hr : Rs W L0 p (ints .u64 ct)) (hb : n ≤ 1000) (hb2 : m ≤ 1000) :
    XIt Try.prog W 30 #[.pointer (some ⟨r, 0, none⟩)] (fun w : Pm m => Value.agg w.1.enc.toArray) (fun w => w.1.l) (fun xs => xs.map (fun w => w.1.pl) = pls ct cm) (fun pre => pre.map (fun w => w.1.pl) <+: pls ct cm) 1000 ((r, .cells #[.slice p n c, .slice q m d] 25 (0, 0)) :: L0) := by
  intro l I Ix hk hY L w h0 hw
  refine callsIn_enter (args := [.func (.yield l) #[] #[], .pointer (some ⟨r, 0, none⟩)]) Try.func30 rfl Try.ntmps30 rfl ?_ w hw
  have hrL : ∀ pre L', I pre L' → Rs W L' p (ints .u64 ct) := fun pre L' h => hr.mono fun z hz => hk pre L' h z (List.mem_cons_of_mem _ hz)
  have hbox : ∀ pre L', I pre L' → Kn W L' r (.cells #[.slice p n c, .slice q m d] 25 (0, 0)) := fun pre L' h => .inr (hk pre L' h _ (List.mem_cons_self ..))
  have hWd : Wd Fence.wide := .inl rfl
  refine xci_seq (xci_wide ?_)
  focus
    refine xc_seq ?_
    refine xc_region ?_
    refine xo_rd (rd_loadB (vs := [.slice p n c, .slice q m d]) rfl (hbox _ _ h0) rfl) rfl ?_
    refine xo_ef rfl (ef_call rfl (XF.mono (xf_right p q n c m d ct cm hn hm (hrL _ _ h0) (by omega) (by omega)) ?_))
    rintro v L' ⟨⟨b, rfl, hbr⟩, rfl⟩
    refine xo_rd (rd_not rfl) rfl ?_
    refine xo_nil ?_
    refine xq_seq ?_
    refine xc_cond rfl (fun h1 => ?_) (fun h1 => ?_)
    refine xc_ret ?_
    refine xq_then_ret ?_
    rotate_left
    refine xc_skip ?_
    rotate_left
  · obtain rfl : b = false := by cases b <;> simp_all
    refine xqR (.inl rfl) rfl fun w hw => ⟨⟨_, rfl⟩, .inl ⟨[], _, ?_, h0, hw⟩⟩
    have : ¬ Rgt ct cm := fun h => by simpa using hbr.2 h
    simp [pls, this]
  obtain rfl : b = true := by cases b <;> simp_all
  have hR : Rgt ct cm := hbr.1 rfl
  have hpl : pls ct cm = plansOf n m := by subst hn; subst hm; unfold pls; rw [if_pos hR]
  rw [hpl] at *
  have hn4 : n ≤ 4 := by have := hR.1; omega
  have hm32 : m ≤ 32 := by have := hR.2.1; omega
  refine xci_tail0 (xci_seq (xci_seq (xci_wide ?_)))
  focus
    refine xc_region ?_
    refine xo_rd (rd_fieldAddr rfl) rfl ?_
    refine xo_rd (rd_load1 rfl ⟨_, _, _, hbox _ _ h0, rfl⟩) rfl ?_
    refine xo_rd (rd_len rfl) rfl ?_
    refine xo_rd (rd_subn rfl rfl (by omega) (by omega)) rfl ?_
    refine xo_rd (rd_assign rfl) rfl ?_
    refine xo_nil ?_
  refine xci_tail0 (xci_block (xci_loopI (ι := ItS m) (fun s => s.k ≤ n - 1 ∧ s.t = (n : Int) - 1 - s.k ∧ I s.pre s.L ∧ s.pre.map (fun w => w.1.pl) = (pA n m).take s.k) (fun s => n - s.k) (fun s => s.L) (fun s => [(0, .func (.yield l) #[] #[]), (1, .pointer (some ⟨r, 0, none⟩)), (3, .int .i64 s.t)]) ⟨0, (n : Int) - 1, [], _⟩ ⟨Nat.zero_le _, by simp, h0, rfl⟩ rfl (by repeat (first | exact keep_nil | refine keep_cons rfl ?_)) ?_))
  rintro ⟨k, t, pre, L1⟩ ⟨hk1, ht1, hI1, hp1⟩
  dsimp only at hk1 hI1 hp1 ht1 ⊢
  subst ht1
  have hpk : pre.length ≤ k := by have := congrArg List.length hp1; simp at this; omega
  refine xci_seq (xci_wide ?_)
  focus
    refine xc_seq ?_
    refine xc_region ?_
    refine xo_rd (rd_move rfl) rfl ?_
    refine xo_rd (rd_gtr rfl rfl) rfl ?_
    refine xo_nil ?_
    refine xq_seq ?_
    refine xc_dec rfl (fun hg1 => ?_) (fun hg1 => ?_)
    refine xc_skip ?_
    rotate_left
    refine xc_exit ?_
    refine xq_then_exit ?_
    refine xq_then_exit ?_
    rotate_left
  · refine xci_tail0 (xci_seq (xci_block (xci_seq (xci_region ?_))))
    refine xi_rd hWd (fun _ h => by cases h) (rd_move rfl) rfl ?_
    refine xi_rd hWd (fun _ h => by cases h) (rd_loadB (vs := [.slice p n c, .slice q m d]) rfl (hbox _ _ hI1) rfl) rfl ?_
    refine xi_rd hWd (fun _ h => by cases h) (rd_move rfl) rfl ?_
    refine xi_rd hWd (fun _ h => by cases h) (rd_fieldAddr rfl) rfl ?_
    refine xi_rd hWd (fun _ h => by cases h) (rd_load1 rfl ⟨_, _, _, hbox _ _ hI1, rfl⟩) rfl ?_
    refine xi_rd hWd (fun _ h => by cases h) (rd_len rfl) rfl ?_
    refine xi_ef hWd (fun _ h => by cases h) rfl (ef_call rfl (XF.mono (xf_plan31 p q n c m d ((n : Int) - 1 - k) (m : Int) (by omega)) ?_))
    rintro v' L' ⟨s, k', lx, rfl, hS, rfl⟩
    have hwi : (⟨((n : Int) - 1 - k), fl m (m : Int), .slice s m k', lx⟩ : Pw).Is := by unfold Pw.Is; dsimp only; rw [fl_len]; exact hS
    refine xi_yieldAt (vs := [.agg (⟨((n : Int) - 1 - k), fl m (m : Int), .slice s m k', lx⟩ : Pw).enc.toArray]) (I (pre ++ [⟨_, hwi, fl_len _ _⟩])) (Ix (pre ++ [⟨_, hwi, fl_len _ _⟩])) rfl rfl rfl (fun w hw => hY pre ⟨_, hwi, fl_len _ _⟩ [] L1 w hI1 (by omega) hw) (fun L2 hI2 => ?_) (fun L2 hI2 => ?_)
    · refine xi_rd hWd (fun _ h => by cases h) (rd_not rfl) rfl ?_
      refine xi_nil (xq_d0 (xci_tail0 (xci_wide ?_)))
      focus
        refine xc_condf rfl ?_
        refine xc_skip ?_
        refine xq_block ?_
      refine xci_tail0 (xci_wide ?_)
      focus
        refine xc_region ?_
        refine xo_rd (rd_move rfl) rfl ?_
        refine xo_rd (rd_subn rfl rfl (by omega) (by omega)) rfl ?_
        refine xo_rd (rd_assign rfl) rfl ?_
        refine xo_nil ?_
      refine xqi_round0 (⟨k + 1, (n : Int) - 1 - k - 1, _, L2⟩ : ItS m) ⟨by dsimp only; omega, by dsimp only; omega, hI2, ?_⟩ (by dsimp only; omega) rfl (by repeat (first | exact keep_nil | refine keep_cons rfl ?_))
      dsimp only
      rw [List.map_append, hp1, pA_take n m k (by omega)]; rfl
    · refine xi_rd hWd (fun _ h => by cases h) (rd_not rfl) rfl ?_
      refine xi_nil (xq_d0 (xci_tail0 (xci_wide ?_)))
      focus
        refine xc_condt rfl ?_
        refine xc_ret ?_
        refine xq_block_ret ?_
        refine xq_then_ret ?_
        refine xq_then_ret ?_
        refine xq_block_ret ?_
        refine xq_then_ret ?_
      refine xqR (.inl rfl) rfl fun w hw => ⟨⟨_, rfl⟩, .inr ⟨_, _, ?_, hI2, hw⟩⟩
      rw [List.map_append, hp1, plans_split, List.append_assoc]
      have := pA_take n m k (by omega)
      rw [show (List.take k (pA n m) ++ List.map (fun w : Pm m => w.1.pl) [⟨_, hwi, fl_len _ _⟩]) = (pA n m).take (k + 1) from this.symm]
      exact (List.take_prefix _ _).trans (List.prefix_append _ _)
  · have hk2 : k = n - 1 := by omega
    subst hk2
    have hp2 : List.map (fun w : Pm m => w.1.pl) pre = pA n m := by rw [hp1]; exact List.take_of_length_le (by simp [pA])
    refine xq_block_hit (xci_tail0 (xci_seq (xci_wide ?_)))
    focus
      refine xc_region ?_
      refine xo_rd (rd_fieldAddr rfl) rfl ?_
      refine xo_rd (rd_load1 rfl ⟨_, _, _, hbox _ _ hI1, rfl⟩) rfl ?_
      refine xo_rd (rd_len rfl) rfl ?_
      refine xo_rd (rd_subn rfl rfl (by omega) (by omega)) rfl ?_
      refine xo_rd (rd_min rfl rfl) rfl ?_
      refine xo_rd (rd_assign rfl) rfl ?_
      refine xo_nil ?_
    refine xci_tail0 (xci_seq (xci_seq (xci_wide ?_)))
    focus
      refine xc_region ?_
      refine xo_rd (rd_fieldAddr rfl) rfl ?_
      refine xo_rd (rd_load1 rfl ⟨_, _, _, hbox _ _ hI1, rfl⟩) rfl ?_
      refine xo_rd (rd_len rfl) rfl ?_
      refine xo_rd (rd_assign rfl) rfl ?_
      refine xo_nil ?_
    refine xci_tail0 (xci_block (xci_loopI (ι := ItS m) (fun s => s.k ≤ m + 1 ∧ s.t = (m : Int) - s.k ∧ I s.pre s.L ∧ s.pre.map (fun w => w.1.pl) = pA n m ++ (pC (bs n) m).take s.k) (fun s => m + 1 - s.k) (fun s => s.L) (fun s => [(0, .func (.yield l) #[] #[]), (1, .pointer (some ⟨r, 0, none⟩)), (4, .int .i64 (bs n)), (5, .int .i64 s.t)]) ⟨0, (m : Int), pre, _⟩ ⟨Nat.zero_le _, by simp, hI1, by rw [hp2]; simp⟩ rfl (by repeat (first | exact keep_nil | refine keep_cons rfl ?_)) ?_))
    clear hp2 hp1 hI1 hpk
    rintro ⟨k, t, pre, L1⟩ ⟨hk1, ht1, hI1, hp1⟩
    dsimp only at hk1 hI1 hp1 ht1 ⊢
    subst ht1
    have hpk : pre.length ≤ n + k := by have := congrArg List.length hp1; simp [pA] at this; omega
    refine xci_seq (xci_wide ?_)
    focus
      refine xc_seq ?_
      refine xc_region ?_
      refine xo_rd (rd_move rfl) rfl ?_
      refine xo_rd (rd_geq rfl rfl) rfl ?_
      refine xo_nil ?_
      refine xq_seq ?_
      refine xc_dec rfl (fun hg1 => ?_) (fun hg1 => ?_)
      refine xc_skip ?_
      rotate_left
      refine xc_exit ?_
      refine xq_then_exit ?_
      refine xq_then_exit ?_
      rotate_left
    · refine xci_tail0 (xci_seq (xci_block (xci_seq (xci_region ?_))))
      refine xi_rd hWd (fun _ h => by cases h) (rd_move rfl) rfl ?_
      refine xi_rd hWd (fun _ h => by cases h) (rd_loadB (vs := [.slice p n c, .slice q m d]) rfl (hbox _ _ hI1) rfl) rfl ?_
      refine xi_rd hWd (fun _ h => by cases h) (rd_move rfl) rfl ?_
      refine xi_rd hWd (fun _ h => by cases h) (rd_move rfl) rfl ?_
      refine xi_ef hWd (fun _ h => by cases h) rfl (ef_call rfl (XF.mono (xf_plan31 p q n c m d (bs n) ((m : Int) - k) (by omega)) ?_))
      rintro v' L' ⟨s, k', lx, rfl, hS, rfl⟩
      have hwi : (⟨bs n, fl m ((m : Int) - k), .slice s m k', lx⟩ : Pw).Is := by unfold Pw.Is; dsimp only; rw [fl_len]; exact hS
      refine xi_yieldAt (vs := [.agg (⟨bs n, fl m ((m : Int) - k), .slice s m k', lx⟩ : Pw).enc.toArray]) (I (pre ++ [⟨_, hwi, fl_len _ _⟩])) (Ix (pre ++ [⟨_, hwi, fl_len _ _⟩])) rfl rfl rfl (fun w hw => hY pre ⟨_, hwi, fl_len _ _⟩ [] L1 w hI1 (by omega) hw) (fun L2 hI2 => ?_) (fun L2 hI2 => ?_)
      · refine xi_rd hWd (fun _ h => by cases h) (rd_not rfl) rfl ?_
        refine xi_nil (xq_d0 (xci_tail0 (xci_wide ?_)))
        focus
          refine xc_condf rfl ?_
          refine xc_skip ?_
          refine xq_block ?_
        refine xci_tail0 (xci_wide ?_)
        focus
          refine xc_region ?_
          refine xo_rd (rd_move rfl) rfl ?_
          refine xo_rd (rd_subn rfl rfl (by omega) (by omega)) rfl ?_
          refine xo_rd (rd_assign rfl) rfl ?_
          refine xo_nil ?_
        refine xqi_round0 (⟨k + 1, (m : Int) - k - 1, _, L2⟩ : ItS m) ⟨by dsimp only; omega, by dsimp only; omega, hI2, ?_⟩ (by dsimp only; omega) rfl (by repeat (first | exact keep_nil | refine keep_cons rfl ?_))
        dsimp only
        rw [List.map_append, hp1, pC_take (bs n) m k (by omega), List.append_assoc]; rfl
      · refine xi_rd hWd (fun _ h => by cases h) (rd_not rfl) rfl ?_
        refine xi_nil (xq_d0 (xci_tail0 (xci_wide ?_)))
        focus
          refine xc_condt rfl ?_
          refine xc_ret ?_
          refine xq_block_ret ?_
          refine xq_then_ret ?_
          refine xq_then_ret ?_
          refine xq_block_ret ?_
          refine xq_then_ret ?_
        refine xqR (.inl rfl) rfl fun w hw => ⟨⟨_, rfl⟩, .inr ⟨_, _, ?_, hI2, hw⟩⟩
        rw [List.map_append, hp1, plans_split]
        have := pC_take (bs n) m k (by omega)
        rw [List.append_assoc, show (List.take k (pC (bs n) m) ++ List.map (fun w : Pm m => w.1.pl) [⟨_, hwi, fl_len _ _⟩]) = (pC (bs n) m).take (k + 1) from this.symm]
        exact ((List.prefix_append_right_inj _).2 (List.take_prefix _ _)).trans (List.prefix_append _ _)
    · have hk2 : k = m + 1 := by omega
      subst hk2
      have hp2 : List.map (fun w : Pm m => w.1.pl) pre = pA n m ++ pC (bs n) m := by rw [hp1]; congr 1; exact List.take_of_length_le (by simp [pC])
      refine xq_block_hit (xci_tail0 (xci_seq (xci_wide ?_)))
      focus
        refine xc_region ?_
        refine xo_rd (rd_move rfl) rfl ?_
        refine xo_rd (rd_eql rfl rfl) rfl ?_
        refine xo_nil ?_
      refine xci_tail0 (xci_cond rfl (fun hb0 => ?_) (fun hb0 => ?_))
      · have hn0 : n ≠ 0 := by rintro rfl; simp [bs] at hb0
        refine xci_region ?_
        refine xi_rd hWd (fun _ h => by cases h) (rd_move rfl) rfl ?_
        refine xi_rd hWd (fun _ h => by cases h) (rd_loadB (vs := [.slice p n c, .slice q m d]) rfl (hbox _ _ hI1) rfl) rfl ?_
        refine xi_ef hWd (fun _ h => by cases h) rfl (ef_call rfl (XF.mono (xf_plan31 p q n c m d (-1) 0 (by omega)) ?_))
        rintro v' L' ⟨s, k', lx, rfl, hS, rfl⟩
        have hwi : (⟨-1, fl m 0, .slice s m k', lx⟩ : Pw).Is := by unfold Pw.Is; dsimp only; rw [fl_len]; exact hS
        have hall : List.map (fun w : Pm m => w.1.pl) (pre ++ [⟨_, hwi, fl_len _ _⟩]) = plansOf n m := by
          rw [List.map_append, hp2, plans_split, if_neg hn0]; rfl
        refine xi_yieldAt (vs := [.agg (⟨-1, fl m 0, .slice s m k', lx⟩ : Pw).enc.toArray]) (I (pre ++ [⟨_, hwi, fl_len _ _⟩])) (Ix (pre ++ [⟨_, hwi, fl_len _ _⟩])) rfl rfl rfl (fun w hw => hY pre ⟨_, hwi, fl_len _ _⟩ [] L1 w hI1 (by omega) hw) (fun L2 hI2 => ?_) (fun L2 hI2 => ?_)
        · exact xi_nil (xq_d0 (xqR (.inr rfl) rfl fun w hw => ⟨⟨_, rfl⟩, .inl ⟨_, _, hall, hI2, hw⟩⟩))
        · exact xi_nil (xq_d0 (xqR (.inr rfl) rfl fun w hw => ⟨⟨_, rfl⟩, .inr ⟨_, _, by rw [hall]; exact List.prefix_refl _, hI2, hw⟩⟩))
      · have hn0 : n = 0 := by
          by_cases h : n = 0
          · exact h
          · exfalso; simp [bs] at hb0; omega
        refine xci_skip (xq_d0 (xqR (.inr rfl) rfl fun w hw => ⟨⟨_, rfl⟩, .inl ⟨_, _, ?_, hI1, hw⟩⟩))
        rw [hp2, plans_split, if_pos hn0, List.append_nil]
end Go.Proofs.Ytnghandgghfloaa.X
