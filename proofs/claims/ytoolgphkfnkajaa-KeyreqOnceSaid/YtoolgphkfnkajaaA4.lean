/-
  Chapter 23: what a requester is, in memory; the keys of its map, in order: walks of my own.
-/
import Derived.Test.YtoolgphkfnkajaaA3
namespace Go.Proofs.Ytoolgphkfnkajaa.X
open Go Go.RowKit
set_option linter.unusedVariables false
set_option linter.unusedSimpArgs false
theorem callsIn_enter {P : Program} {W : World} {fn : Func} {c : Code} {f : FuncId} {args : List Value} {n : Nat} {L : List Blk} {R : Ending → World → Prop} (hf : P.funcs[f]? = some fn) (hb : fn.body = some c) (hn : fn.ntmps = n) (hl : Nat.ble args.length n = true)
    (h : XCI Fence.wide 0 [] P W n c (bodyPostM Fence.wide 0 P fn R) L (zipArgs 0 args)) : ∀ w, Hp W w L → CallsIn Fence.wide 0 P f args.toArray w R := fun w hw => by
  have he : Env n { tmps := args.toArray ++ Array.replicate (fn.ntmps - args.toArray.size) undef, defers := [] } (zipArgs 0 args) := by
    refine ⟨rfl, ?_, fun i v hv => ?_⟩
    · have : args.length ≤ n := by simpa [Nat.ble_eq] using hl
      simp [hn]; omega
    · obtain ⟨_, h2⟩ := lk_zipArgs args 0 i v hv
      have h3 := (List.getElem?_eq_some_iff.1 h2).1
      simp only [Nat.sub_zero] at h2 h3
      rw [Array.getElem?_append_left (by simpa using h3)]
      simpa using h2
  have h1 := h.run _ w he hw
  rw [Act.ds_nil he] at h1
  exact callsIn_of_wp_marks hf hb trivial h1
theorem xci_tail0 {F : Fence} {m : Nat} {P : Program} {W : World} {n : Nat} {y : Code} {Q Q0 : Exit → Go.Act → World → Prop} {L : List Blk} {E : List (Nat × Value)} (h : XCI F m [] P W n y Q L E) : XQ W n (Exit.then (fun a w => y.wpIn F m P Q a w) Q0) .normal L E := .mk fun a w ha hw => by
  have := h.run a w ha hw
  rwa [Act.ds_nil ha] at this
/-- The iterator returns: nothing. -/
theorem xqR {P : Program} {W : World} {n : Nat} {fn : Func} {R : Ending → World → Prop} {L : List Blk} {E : List (Nat × Value)} {e : Exit} (he : e = .ret ∨ e = .normal) (hr : fn.results = #[]) (h : ∀ w, Hp W w L → R (.returned (.tuple #[])) w) : XQ W n (bodyPostM Fence.wide 0 P fn R) e L E := .mk fun a w ha hw => by
  have hres : (results fn a.tmps).run P w = .ok (.tuple #[]) w := results_none hr _ _ _
  rcases he with rfl | rfl
  · show LeavesInM _ _ _ _ _ _ a.defers _ _
    rw [ha.defers]
    exact ⟨_, hres, h w hw⟩
  · show LeavesInM _ _ _ _ _ _ a.defers _ _
    rw [ha.defers]
    exact ⟨_, hres, h w hw⟩
theorem xq_d0 {W : World} {n : Nat} {Q : Exit → Go.Act → World → Prop} {e : Exit} {L : List Blk} {E : List (Nat × Value)} (h : XQ W n Q e L E) : XQ W n (Qd [] Q) e L E := .mk fun a w ha hw => by
  show Q e (Act.ds a []) w
  rw [Act.ds_nil ha]; exact h.run a w ha hw
theorem xqi_round0 {W : World} {n : Nat} {Q : Exit → Go.Act → World → Prop} {L : List Blk} {E : List (Nat × Value)} {ι : Type} {I : ι → Prop} {μ : ι → Nat} {Ls : ι → List Blk} {Es : ι → List (Nat × Value)} {k : Nat} (j : ι) (hj : I j) (hm : μ j < k) (hL : L = Ls j) (hE : ∀ k v, lk (Es j) k = some v → lk E k = some v) :
    XQ W n (Exit.then (fun a w => ∃ b, a = Act.ds b [] ∧ ∃ j, I j ∧ μ j < k ∧ Env n b (Es j) ∧ Hp W w (Ls j)) Q) .normal L E := .mk fun a w ha hw => by
  have := (xqi_round (ds := []) (Q := Q) j hj hm hL hE).run a w ha hw
  unfold Qd at this
  rwa [Act.ds_nil ha] at this
theorem xqd_block {W : World} {n id : Nat} {ds : List Deferred} {Q : Exit → Go.Act → World → Prop} {L : List Blk} {E : List (Nat × Value)} (h : XQ W n (Qd ds Q) .normal L E) : XQ W n (Qd ds (Exit.inBlock id Q)) .normal L E := .mk fun a w ha hw => h.run a w ha hw
theorem SlO.one {s : Nat} {e : TypeId} {v : Value} {m : Nat} {xs : List Value} {l : List Blk} (h : SlO s e v m xs l) : v.oneCell' = true := by
  obtain ⟨p, c, rfl⟩ := h.val
  rfl
theorem MpR.cong {k : IntKind} {m : Nat} {o it : Obj} {f g : Int → Option Value} {s t : Nat} {left : List Int} {cur : Option Int} (h : MpR k m o it f s left cur) (hf : ∀ z, f z = g z) (hs : s = t) : MpR k m o it g t left cur := by
  obtain rfl : f = g := funext hf
  subst hs
  exact h
theorem MpR.left_some {k : IntKind} {m : Nat} {o it : Obj} {f : Int → Option Value} {s : Nat} {left : List Int} {cur : Option Int} (h : MpR k m o it f s left cur) {n : Int} (hn : n ∈ left) : (f n).isSome = true := by
  obtain ⟨l, c, seen, _, _, h3, _, h5, _, _, _, h9, _⟩ := h
  obtain ⟨e, he, rfl⟩ := List.mem_map.1 (h9 n hn)
  rw [← h5, mfind_mem h3 he]; rfl
theorem MpR.nodup {k : IntKind} {m : Nat} {o it : Obj} {f : Int → Option Value} {s : Nat} {left : List Int} {cur : Option Int} (h : MpR k m o it f s left cur) : left.Nodup := by
  obtain ⟨l, c, seen, _, _, h3, _, h5, _, _, _, h9, h10, _⟩ := h
  exact h10
/-- What is known of a source. -/
structure Sr where
  id : Int
  last : Int
  sent : Int
  wt : Int
def sEnc (last sent wt : Int) : List Value := [.int .u64 last, .int .u64 sent, .int .u64 wt]
def Sr.v (s : Sr) : Value := .agg (sEnc s.last s.sent s.wt).toArray
def srF (l : List Sr) (z : Int) : Option Sr := l.find? fun s => s.id == z
def srV (l : List Sr) : Int → Option Value := fun z => (srF l z).map Sr.v
theorem srF_mem {l : List Sr} {z : Int} : (srF l z).isSome = true ↔ z ∈ l.map Sr.id := by
  unfold srF
  rw [List.find?_isSome, List.mem_map]
  simp
theorem srV_mem {l : List Sr} {z : Int} : (srV l z).isSome = true ↔ z ∈ l.map Sr.id := by
  unfold srV
  rw [Option.isSome_map]; exact srF_mem
/-- Where the keys stand. -/
structure KyS where
  it : Obj
  left : List Int
  cur : Option Int
  pre : List Int
  L : List Blk
set_option maxHeartbeats 1600000 in
theorem it_keys {W : World} (L0 : List Blk) (rb mb : Nat) (mo : Obj) (l : List Sr) (hm : MpIs .u32 mo (srV l) l.length) (hnd : (l.map Sr.id).Nodup) (hl : l.length ≤ 12) :
    XIt Try.prog W 41 #[.pointer (some ⟨rb, 0, none⟩)] (fun x : Int => Value.int .u32 x) (fun _ => []) (fun xs => xs.Perm (l.map Sr.id)) (fun _ => True) 12 ((rb, .cells #[.map (some mb)] 46 (0, 0)) :: (mb, mo) :: L0) := by
  intro l' I Ix hk hY L w h0 hw
  refine callsIn_enter (args := [.func (.yield l') #[] #[], .pointer (some ⟨rb, 0, none⟩)]) Try.func41 rfl Try.ntmps41 rfl ?_ w hw
  have hbox : ∀ pre L', I pre L' → Kn W L' rb (.cells #[.map (some mb)] 46 (0, 0)) := fun pre L' h => .inr (hk pre L' h _ (List.mem_cons_self ..))
  have hkn : ∀ pre L', I pre L' → Kn W L' mb mo := fun pre L' h => .inr (hk pre L' h _ (List.mem_cons_of_mem _ List.mem_cons_self))
  have hWd : Wd Fence.wide := .inl rfl
  refine xci_seq (xci_wide ?_)
  focus
    refine xc_region ?_
    refine xo_rd (rd_load1 rfl ⟨_, _, _, hbox _ _ h0, rfl⟩) rfl ?_
    refine xo_ef rfl (ef_range hm rfl (hkn _ _ h0) fun r5 it left hrg hll hlm => ?_)
    refine xo_nil ?_
  have hpm : left.Perm (l.map Sr.id) := (List.perm_ext_iff_of_nodup hrg.nodup hnd).2 fun z => by rw [hlm, srV_mem]
  refine xci_tail0 (xci_block (xci_loopI (ι := KyS) (fun s => MpR .u32 mb mo s.it (srV l) l.length s.left s.cur ∧ (s.pre ++ s.left).Perm (l.map Sr.id) ∧ I s.pre s.L) (fun s => s.left.length) (fun s => (r5, s.it) :: s.L) (fun s => [(0, .func (.yield l') #[] #[]), (5, .pointer (some ⟨r5, 0, none⟩))]) ⟨it, left, none, [], _⟩ ⟨hrg, hpm, h0⟩ rfl (by repeat (first | exact keep_nil | refine keep_cons rfl ?_)) ?_))
  clear hrg hll hlm hpm
  rintro ⟨it, left, cur, pre, L1⟩ ⟨hrg, hpm, hI1⟩
  dsimp only at hrg hpm hI1 ⊢
  have hlen : pre.length + left.length ≤ 12 := by have := hpm.length_eq; rw [List.length_append, List.length_map] at this; omega
  refine xci_seq (xci_wide ?_)
  cases left with
  | nil =>
    focus
      refine xc_region ?_
      refine xo_ef rfl (ef_next [] _ hrg rfl rfl (.inr (List.mem_cons_of_mem _ (hk _ _ hI1 _ (List.mem_cons_of_mem _ List.mem_cons_self)))) (fun _ => ?_) (fun n v it' hn => by cases hn))
      refine xo_rd (rd_extract rfl rfl) rfl ?_
      refine xo_nil ?_
    refine xci_tail0 (xci_seq (xci_wide ?_))
    focus
      refine xc_condf rfl ?_
      refine xc_exit ?_
      refine xq_then_exit ?_
      refine xq_then_exit ?_
    refine xq_block_hit (xqR (.inr rfl) rfl fun w hw => ⟨⟨_, rfl⟩, .inl ⟨pre, L1, by rw [List.append_nil] at hpm; exact hpm, hI1, hw.sub (List.sublist_cons_self _ _)⟩⟩)
  | cons x r =>
    rw [List.length_cons] at hlen
    focus
      refine xc_region ?_
      refine xo_ef rfl (ef_next [] _ hrg rfl rfl (.inr (List.mem_cons_of_mem _ (hk _ _ hI1 _ (List.mem_cons_of_mem _ List.mem_cons_self)))) (fun h => by cases h) (fun n v it' hn hv hrg' => ?_))
      refine xo_rd (rd_extract rfl rfl) rfl ?_
      refine xo_nil ?_
    refine xci_tail0 (xci_seq (xci_wide ?_))
    focus
      refine xc_condt rfl ?_
      refine xc_skip ?_
    refine xci_tail0 (xci_block (xci_seq (xci_wide ?_)))
    focus
      refine xc_region ?_
      refine xo_rd (rd_entry hrg' hv rfl (.inr List.mem_cons_self) (.inr (List.mem_cons_of_mem _ (hk _ _ hI1 _ (List.mem_cons_of_mem _ List.mem_cons_self))))) rfl ?_
      refine xo_rd (rd_extract rfl rfl) rfl ?_
      refine xo_rd (rd_assign rfl) rfl ?_
      refine xo_nil ?_
    refine xci_tail0 (xci_seq (xci_region ?_))
    refine xi_rd hWd (fun _ h => by cases h) (rd_move rfl) rfl ?_
    refine xi_rd hWd (fun _ h => by cases h) (rd_move rfl) rfl ?_
    refine xi_yieldAt (vs := [.int .u32 n]) (fun L2 => ∃ L3, I (pre ++ [n]) L3 ∧ L2 = (r5, it') :: L3) (fun L2 => ∃ L3, Ix (pre ++ [n]) L3 ∧ L2 = (r5, it') :: L3) rfl rfl rfl (fun w hw => ?_) ?_ ?_
    · obtain ⟨fn, tmps, assign, body, h1, h2⟩ := hY pre n [(r5, it')] L1 w hI1 (by omega) hw
      refine ⟨fn, tmps, assign, body, h1, h2.mono ?_⟩
      rintro e w' (⟨he, L3, h3, h4⟩ | ⟨he, L3, h3, h4⟩)
      · exact .inl ⟨he, _, ⟨L3, h3, rfl⟩, h4⟩
      · exact .inr ⟨he, _, ⟨L3, h3, rfl⟩, h4⟩
    · rintro L2 ⟨L3, hI3, rfl⟩
      refine xi_rd hWd (fun _ h => by cases h) (rd_not rfl) rfl ?_
      refine xi_nil (xq_d0 (xci_tail0 (xci_wide ?_)))
      focus
        refine xc_condf rfl ?_
        refine xc_skip ?_
        refine xq_block ?_
      refine xqi_round0 (⟨it', (x :: r).erase n, some n, pre ++ [n], L3⟩ : KyS) ⟨hrg', ?_, hI3⟩ ?_ rfl (by repeat (first | exact keep_nil | refine keep_cons rfl ?_))
      · dsimp only
        rw [List.append_assoc]
        exact ((List.perm_cons_erase hn).symm.append_left pre).trans hpm
      · dsimp only
        rw [List.length_erase_of_mem hn, List.length_cons]; omega
    · rintro L2 ⟨L3, hI3, rfl⟩
      refine xi_rd hWd (fun _ h => by cases h) (rd_not rfl) rfl ?_
      refine xi_nil (xq_d0 (xci_tail0 (xci_wide ?_)))
      focus
        refine xc_condt rfl ?_
        refine xc_ret ?_
        refine xq_block_ret ?_
        refine xq_then_ret ?_
        refine xq_block_ret ?_
      exact xqR (.inl rfl) rfl fun w hw => ⟨⟨_, rfl⟩, .inr ⟨_, L3, trivial, hI3, hw.sub (List.sublist_cons_self _ _)⟩⟩
end Go.Proofs.Ytoolgphkfnkajaa.X
