/-
  Words of my own for walks, sixteenth part: a range over a function. No condition; generic over the program.
-/
import Derived.Test.YtoolgphkfnkajaaX15
import Derived.RangeFuncIn
import Derived.RangeFuncRecord
import Derived.RangeFuncSeq
import Derived.RangeFuncLeaves
namespace Go.Proofs.Ytoolgphkfnkajaa.X
open Go Go.RowKit
set_option linter.unusedVariables false
set_option linter.unusedSimpArgs false
theorem Hp.put {W w : World} {b : Nat} {o : Obj} {A R : List Blk} (h : Hp W w (A ++ (b, o) :: R)) (o' : Obj) : Hp W (w.putObj b o') (A ++ (b, o') :: R) :=
  h.turnAt rfl rfl rfl (World.putObj_heap_same (Array.getElem?_eq_some_iff.1 h.mid).1) (fun k hk => World.putObj_heap_other hk)
/-- The contract of an iterator: whatever stands between two rounds, each round is handed an element and its blocks; it goes on, or is stopped. -/
def XIt {α : Type} (P : Program) (W : World) (gf : FuncId) (lb : Array Value) (enc : α → Value) (bl : α → List Blk) (S Sp : List α → Prop) (N : Nat) (keep : List Blk) : Prop :=
  ∀ (l : Nat) (I Ix : List α → List Blk → Prop), (∀ pre L', I pre L' → ∀ z, z ∈ keep → z ∈ L') →
    (∀ pre x A L' w, I pre L' → pre.length < N → Hp W w (A ++ (bl x ++ L')) → YieldAt Fence.wide 0 P l #[enc x] w fun e w' =>
      (e = .returned (.bool true) ∧ ∃ L'', I (pre ++ [x]) L'' ∧ Hp W w' (A ++ L'')) ∨ (e = .returned (.bool false) ∧ ∃ L'', Ix (pre ++ [x]) L'' ∧ Hp W w' (A ++ L''))) →
    ∀ L w, I [] L → Hp W w L → CallsIn Fence.wide 0 P gf (#[.func (.yield l) #[] #[]] ++ lb) w fun e w' =>
      (∃ v, e = .returned v) ∧ ((∃ xs L', S xs ∧ I xs L' ∧ Hp W w' L') ∨ (∃ pre L', Sp pre ∧ Ix pre L' ∧ Hp W w' L'))
/-- How a round's body may be left. -/
def roundQ {α : Type} (W : World) (A : List Blk) (I : List α → List Blk → Prop) (Ix : Code → List α → List Blk → Prop) (pre : List α) : Exit → Go.Act → World → Prop
  | .normal, _, w => ∃ L', I pre L' ∧ Hp W w (A ++ L')
  | .ret, _, w => ∃ L', Ix .ret pre L' ∧ Hp W w (A ++ L')
  | .exit id, _, w => ∃ L', Ix (.exit id) pre L' ∧ Hp W w (A ++ L')
  | .goto t, _, w => ∃ L', Ix (.goto t) pre L' ∧ Hp W w (A ++ L')
  | _, _, _ => False
def mark (D : Nat) : List Deferred := [{ target := .collected D, args := #[] }]
section
variable {P : Program} {W : World} {n : Nat} {Q : Exit → Go.Act → World → Prop} {L : List Blk} {E : List (Nat × Value)}
theorem xci_range {α : Type} {g : Operand} {t : Tmp} {assign body : Code} {gf : FuncId} {lb : Array Value} {enc : α → Value} {bl : α → List Blk} {S Sp : List α → Prop} {N : Nat} {keep : List Blk}
    (hit : XIt P W gf lb enc bl S Sp N keep) (hg : ev E g = some (.func (.func gf) #[] lb)) (eg : ∀ args w, (callFunc gf args).run P w = .ok (.enter gf args) w) (ht : t < n)
    (I : List α → List Blk → Prop) (Ix : Code → List α → List Blk → Prop) (hk : ∀ pre L', I pre L' → ∀ z, z ∈ keep → z ∈ L') (h0 : I [] L)
    {ι : Type} (Ls : List α → α → List Blk → ι → List Blk) (Es : List α → α → List Blk → ι → List (Nat × Value))
    (hassign : ∀ l pre x A L', I pre L' → pre.length < N → XCI (Fence.wide.inRound l) 0 [] P W n assign (Exit.then (fun a w => ∃ r, Env n a (Es pre x L' r) ∧ Hp W w (A ++ Ls pre x L' r)) (fun _ _ _ => False)) (A ++ (bl x ++ L')) ((t, enc x) :: E))
    (hbody : ∀ l pre x A L' r, I pre L' → pre.length < N → XCI (Fence.wide.inRound l) 0 [] P W n body (roundQ W A I Ix (pre ++ [x])) (A ++ Ls pre x L' r) (Es pre x L' r))
    (hdone : ∀ D xs L', S xs → I xs L' → XQ W n (Qd (mark D) Q) .normal ((D, .deferred (some [])) :: L') E)
    (hstop : ∀ D c pre L', Sp pre → Ix c pre L' → XCI Fence.wide 0 (mark D) P W n c Q ((D, .deferred (some [])) :: L') E) :
    XCI Fence.wide 0 [] P W n (.rangeFunc g #[t] assign body) Q L E := by
  refine ⟨fun a w ha hw => ?_⟩
  rw [Act.ds_nil ha]
  refine wpIn_rangeFunc ?_
  intro fn hfn
  obtain ⟨rec, hrec⟩ : ∃ rec : LoopState → Option Code → Loop, rec = fun st pe => { state := st, pending := pe, fn, tmps := a.tmps, params := #[t], assign, body, defers := w.heap.size } := ⟨_, rfl⟩
  have hw1 : Hp W ((w.alloc (.deferred (some []))).alloc (.loop (rec .ready none))) ((w.heap.size + 1, .loop (rec .ready none)) :: (w.heap.size, .deferred (some [])) :: L) := by
    have h1 := hw.alloc (.deferred (some []))
    have h2 := h1.alloc (.loop (rec .ready none))
    simp only [Array.size_push] at h2
    exact h2
  obtain ⟨w0, hw0⟩ : ∃ w0, (w.alloc (.deferred (some []))).alloc (.loop (rec .ready none)) = w0 := ⟨_, rfl⟩
  refine ⟨w.heap.size + 1, mark w.heap.size, w0, { target := .fn (.func gf) lb, args := #[.func (.yield (w.heap.size + 1)) #[] #[]] }, w0, gf, #[.func (.yield (w.heap.size + 1)) #[] #[]] ++ lb, w0, ?_, ?_, fun f' _ => trivial, ?_, fun h => absurd h (by simp [Fence.wide]), ?_⟩
  · rw [← hw0, hrec]; exact run_enterLoop_outer _ _ _ _ _
  · have hga := ha.eval hg
    simp only [resolve, hga]
    simp [go_sem]
  · simp [invoke, go_sem, eg]
  · refine (hit (w.heap.size + 1)
      (fun pre L' => ∃ L0, I pre L0 ∧ L' = (w.heap.size + 1, .loop (rec .ready none)) :: (w.heap.size, .deferred (some [])) :: L0)
      (fun pre L' => ∃ c L0, Ix c pre L0 ∧ L' = (w.heap.size + 1, .loop (rec .done (some c))) :: (w.heap.size, .deferred (some [])) :: L0) ?_ ?_ _ _ ⟨L, h0, rfl⟩ (hw0 ▸ hw1)).mono ?_
    · rintro pre L' ⟨L0, hI, rfl⟩ z hz
      exact List.mem_cons_of_mem _ (List.mem_cons_of_mem _ (hk pre L0 hI z hz))
    · rintro pre x A L' w1 ⟨L0, hI, rfl⟩ hlen hw2
      have hp : (A ++ (bl x ++ (w.heap.size + 1, Obj.loop (rec .ready none)) :: (w.heap.size, Obj.deferred (some [])) :: L0)).Perm ([] ++ (w.heap.size + 1, Obj.loop (rec .ready none)) :: ((A ++ [(w.heap.size, Obj.deferred (some []))]) ++ (bl x ++ L0))) := by
        classical
        rw [List.perm_iff_count]; intro z; simp only [List.count_cons, List.count_append, List.count_nil, List.nil_append, List.append_nil]; omega
      have hw3 := hw2.perm hp
      have hy := run_yield (P := P) (args := #[enc x]) hw3.mid (by rw [hrec]; rfl)
      rw [hrec] at hy
      refine ⟨fn, a.tmps.setIfInBounds t (enc x), assign, body, by simpa using hy, roundIn_of_wpIn hfn ?_⟩
      have hae : Env n { tmps := a.tmps.setIfInBounds t (enc x), defers := [] } ((t, enc x) :: E) := by
        have := ha.pt (some t) (enc x) (by simpa [okd, Nat.blt_eq] using ht)
        have h2 : a.put (some t) (enc x) = { tmps := a.tmps.setIfInBounds t (enc x), defers := [] } := by rw [← ha.defers]; rfl
        rw [h2] at this
        exact this
      have has := (hassign (w.heap.size + 1) pre x ((w.heap.size + 1, Obj.loop (rec .ready none)) :: (A ++ [(w.heap.size, Obj.deferred (some []))])) L0 hI hlen).run _ w1 hae (by simpa using hw3)
      rw [Act.ds_nil hae] at has
      refine wpIn_mono has ?_
      rintro e a1 w4 q
      cases e with
      | normal =>
        obtain ⟨r, hEr, hLr⟩ := q
        have hLr' : Hp W w4 ([] ++ (w.heap.size + 1, Obj.loop (rec .ready none)) :: ((A ++ [(w.heap.size, Obj.deferred (some []))]) ++ Ls pre x L0 r)) := by simpa using hLr
        refine ⟨_, run_beginRound hLr'.mid (by rw [hrec]), ?_⟩
        have hLb := hLr'.put (.loop { rec .ready none with state := .busy })
        have hb := (hbody (w.heap.size + 1) pre x ((w.heap.size + 1, Obj.loop { rec .ready none with state := .busy }) :: (A ++ [(w.heap.size, Obj.deferred (some []))])) L0 r hI hlen).run _ _ hEr (by simpa using hLb)
        rw [Act.ds_nil hEr] at hb
        refine wpIn_mono hb ?_
        rintro e a2 w5 q
        have fin : ∀ (jump : Option Code) (L'' : List Blk), Hp W w5 ((w.heap.size + 1, Obj.loop { rec .ready none with state := .busy }) :: (A ++ [(w.heap.size, Obj.deferred (some []))]) ++ L'') →
            (Instr.endRound (w.heap.size + 1) jump).run P w5 = .ok (.bool jump.isNone) (w5.putObj (w.heap.size + 1) (.loop (rec (if jump.isNone then .ready else .done) jump))) ∧ Hp W (w5.putObj (w.heap.size + 1) (.loop (rec (if jump.isNone then .ready else .done) jump))) (A ++ ((w.heap.size + 1, .loop (rec (if jump.isNone then .ready else .done) jump)) :: (w.heap.size, .deferred (some [])) :: L'')) := fun jump L'' h => by
          have h' : Hp W w5 ([] ++ (w.heap.size + 1, Obj.loop { rec .ready none with state := .busy }) :: ((A ++ [(w.heap.size, Obj.deferred (some []))]) ++ L'')) := by simpa using h
          have h1 := run_endRound (P := P) jump h'.mid
          have h2 := h'.put (.loop (rec (if jump.isNone then .ready else .done) jump))
          refine ⟨by rw [hrec] at h1 ⊢; exact h1, h2.perm ?_⟩
          classical
          rw [List.perm_iff_count]; intro z; simp only [List.count_cons, List.count_append, List.count_nil, List.nil_append, List.append_nil]; omega
        cases e with
        | normal =>
          obtain ⟨L'', hI', hH⟩ := q
          obtain ⟨h1, h2⟩ := fin none L'' hH
          exact ⟨_, _, h1, .inl ⟨rfl, _, ⟨L'', hI', rfl⟩, h2⟩⟩
        | ret =>
          obtain ⟨L'', hI', hH⟩ := q
          obtain ⟨h1, h2⟩ := fin (some .ret) L'' hH
          exact ⟨_, _, h1, .inr ⟨rfl, _, ⟨.ret, L'', hI', rfl⟩, h2⟩⟩
        | exit id =>
          obtain ⟨L'', hI', hH⟩ := q
          obtain ⟨h1, h2⟩ := fin (some (.exit id)) L'' hH
          exact ⟨_, _, h1, .inr ⟨rfl, _, ⟨.exit id, L'', hI', rfl⟩, h2⟩⟩
        | goto id =>
          obtain ⟨L'', hI', hH⟩ := q
          obtain ⟨h1, h2⟩ := fin (some (.goto id)) L'' hH
          exact ⟨_, _, h1, .inr ⟨rfl, _, ⟨.goto id, L'', hI', rfl⟩, h2⟩⟩
        | panic ch => exact q.elim
        | outgrown => exact q.elim
      | _ => exact q.elim
    · have hact : ({ tmps := a.tmps, defers := mark w.heap.size ++ a.defers } : Go.Act) = Act.ds a (mark w.heap.size) := by rw [ha.defers, List.append_nil]; rfl
      rintro e w2 ⟨⟨v, rfl⟩, (⟨xs, L', hS, ⟨L0, hI, rfl⟩, hH⟩ | ⟨pre, L', hSp, ⟨c, L0, hI, rfl⟩, hH⟩)⟩
      · have hH' : Hp W w2 ([] ++ (w.heap.size + 1, Obj.loop (rec .ready none)) :: (w.heap.size, Obj.deferred (some [])) :: L0) := hH
        refine ⟨none, _, by have := run_endLoop (P := P) hH'.mid (by rw [hrec]; simp); rw [hrec] at this; exact this, ?_⟩
        have h2 := (hH'.put (.loop { rec .ready none with state := .exhausted })).sub (List.sublist_cons_self _ _)
        have := (hdone w.heap.size xs L0 hS hI).run a _ ha h2
        rw [hrec] at this
        exact hact ▸ this
      · have hH' : Hp W w2 ([] ++ (w.heap.size + 1, Obj.loop (rec .done (some c))) :: (w.heap.size, Obj.deferred (some [])) :: L0) := hH
        refine ⟨some c, _, by have := run_endLoop (P := P) hH'.mid (by rw [hrec]; simp); rw [hrec] at this; exact this, ?_⟩
        have h2 := (hH'.put (.loop { rec .done (some c) with state := .exhausted })).sub (List.sublist_cons_self _ _)
        have := (hstop w.heap.size c pre L0 hSp hI).run a _ ha h2
        rw [hrec] at this
        exact hact ▸ this
end
end Go.Proofs.Ytoolgphkfnkajaa.X
namespace Go.Proofs.Ytoolgphkfnkajaa.X
open Go Go.RowKit
section
variable {P : Program} {W : World} {n : Nat} {L : List Blk} {E : List (Nat × Value)} {K : Value → List Blk → Prop}
/-- A function whose body holds a range over a function. -/
theorem xf_enterM {fn : Func} {c : Code} {f : FuncId} {args : List Value} {n : Nat} (hf : P.funcs[f]? = some fn) (hb : fn.body = some c) (hn : fn.ntmps = n) (hl : Nat.ble args.length n = true)
    (h : XCI Fence.wide 0 [] P W n c (bodyPostM Fence.wide 0 P fn (XP W K)) L (zipArgs 0 args)) : XF P W f args.toArray L K := by
  refine ⟨fun w hw => ?_⟩
  have he : Env n { tmps := args.toArray ++ Array.replicate (fn.ntmps - args.toArray.size) undef, defers := [] } (zipArgs 0 args) := by
    refine ⟨rfl, ?_, fun i v hv => ?_⟩
    · have : args.length ≤ n := by simpa [Nat.ble_eq] using hl
      simp [hn]; omega
    · obtain ⟨_, h2⟩ := lk_zipArgs args 0 i v hv
      have h3 := (List.getElem?_eq_some_iff.1 h2).1
      simp only [Nat.sub_zero] at h2 h3
      rw [Array.getElem?_append_left (by simpa using h3)]
      simpa using h2
  have h1 := h.run _ w he hw
  rw [Act.ds_nil he] at h1
  exact (callsIn_wide (n := 0)).1 (callsIn_of_wp_marks hf hb trivial h1)
/-- The end of such a function: behind the loop. -/
theorem xqm_ret {fn : Func} {D : Nat} {e : Exit} (he : e = .ret ∨ e = .normal) (h : XQ W n (bodyPost P fn (XP W K)) e L E) : XQ W n (Qd (mark D) (bodyPostM Fence.wide 0 P fn (XP W K))) e ((D, .deferred (some [])) :: L) E := by
  refine ⟨fun a w ha hw => ?_⟩
  have hw' : Hp W w ([] ++ (D, Obj.deferred (some [])) :: L) := hw
  have h2 := (hw'.put (.deferred none)).sub (List.sublist_cons_self _ _)
  have h3 := h.run a _ ha h2
  have ht := run_takeDeferred (P := P) hw'.mid
  rcases he with rfl | rfl
  · exact ⟨by simp, .inl ⟨D, _, rfl, ht, h3.2⟩⟩
  · exact ⟨by simp, .inl ⟨D, _, rfl, ht, h3.2⟩⟩
/-- The end of such a function ahead of the loop. -/
theorem xq0_ret {fn : Func} {e : Exit} (he : e = .ret ∨ e = .normal) (h : XQ W n (bodyPost P fn (XP W K)) e L E) : XQ W n (Qd [] (bodyPostM Fence.wide 0 P fn (XP W K))) e L E := by
  refine ⟨fun a w ha hw => ?_⟩
  have h3 := h.run a _ ha hw
  rcases he with rfl | rfl
  · exact h3.2
  · exact h3.2
end
end Go.Proofs.Ytoolgphkfnkajaa.X
namespace Go.Proofs.Ytoolgphkfnkajaa.X
open Go Go.RowKit
section
variable {F : Fence} {ds : List Deferred} {P : Program} {W : World} {n : Nat} {ops : Array Oper} {Q : Exit → Go.Act → World → Prop} {rest : List Oper} {L : List Blk} {E : List (Nat × Value)}
/-- The iterator calls yield. -/
theorem xi_yieldAt {d : Option Nat} {t : TypeId} {pos : String} {after : Array Edge} {x : Operand} {args : List Operand} {ts : Array TypeId} {vs : List Value} {l : Nat} (I1 I2 : List Blk → Prop) (hd : okd n d = true)
    (hx : ev E x = some (.func (.yield l) #[] #[])) (h : evs E args = some vs)
    (hy : ∀ w, Hp W w L → YieldAt Fence.wide 0 P l vs.toArray w fun e w' => (e = .returned (.bool true) ∧ ∃ L', I1 L' ∧ Hp W w' L') ∨ (e = .returned (.bool false) ∧ ∃ L', I2 L' ∧ Hp W w' L'))
    (h1 : ∀ L', I1 L' → XI Fence.wide 0 ds P W n ops Q rest L' (pt E d (.bool true))) (h2 : ∀ L', I2 L' → XI Fence.wide 0 ds P W n ops Q rest L' (pt E d (.bool false))) :
    XI Fence.wide 0 ds P W n ops Q (⟨d, .call ⟨.value x, args.toArray, ts⟩, t, pos, after, none⟩ :: rest) L E := by
  refine ⟨fun a w ha hw => ?_⟩
  obtain ⟨fn, tmps, assign, body, hrun, hR⟩ := hy w hw
  have hex : (execOp a.eval ⟨d, .call ⟨.value x, args.toArray, ts⟩, t, pos, after, none⟩).run P w = .ok (.round l fn tmps assign body) w := by
    have he := ha.evals h
    have hxa := ha.eval hx
    simp only [execOp, resolve, hxa]
    simp [Deferred.ofValue, invoke, he]
    simpa using hrun
  unfold wpListIn
  simp only [Region.wanted, if_true]
  refine ⟨fun f _ => trivial, ?_⟩
  rw [Wd.sem (F := Fence.wide) (Act.ds a ds).eval ⟨d, .call ⟨.value x, args.toArray, ts⟩, t, pos, after, none⟩ (fun _ h => by cases h), Act.ds_eval, hex]
  refine ⟨fun hd => absurd hd (by simp [Fence.wide]), hR.mono ?_⟩
  rintro e w' (⟨rfl, L', hI, hw'⟩ | ⟨rfl, L', hI, hw'⟩)
  · show wpListIn Fence.wide 0 P ops Q rest ((Act.ds a ds).put d (.bool true)) w'
    rw [Act.ds_put]
    exact (h1 L' hI).run _ _ (ha.pt d _ hd) hw'
  · show wpListIn Fence.wide 0 P ops Q rest ((Act.ds a ds).put d (.bool false)) w'
    rw [Act.ds_put]
    exact (h2 L' hI).run _ _ (ha.pt d _ hd) hw'
end
end Go.Proofs.Ytoolgphkfnkajaa.X
