/-
  Words of my own for walks, fifteenth part: walks within the fenced layer (wide, or in a round of a range over a function). No condition; generic over the program.
-/
import Derived.Test.YtoolgphkfnkajaaX14
import Derived.RangeFuncNested
import Derived.RangeFuncCalls
import Derived.TacticsIn
import Derived.Sort.LoopGhostIn
namespace Go.Proofs.Ytoolgphkfnkajaa.X
open Go Go.RowKit
set_option linter.unusedVariables false
set_option linter.unusedSimpArgs false
/-- The wide fence, outside of a round or within one. -/
def Wd (F : Fence) : Prop := F = Fence.wide ∨ ∃ l, F = Fence.wide.inRound l
theorem Wd.fn {F : Fence} (h : Wd F) (f : FuncId) : F.fn f := by rcases h with rfl | ⟨l, rfl⟩ <;> trivial
theorem Wd.depth {F : Fence} (h : Wd F) : ¬ F.depth.isSome = true := by rcases h with rfl | ⟨l, rfl⟩ <;> simp [Fence.wide]
theorem Wd.calls {F : Fence} (h : Wd F) {n : Nat} {P : Program} {f : FuncId} {args : Array Value} {w : World} {R : Ending → World → Prop} (hc : Calls P f args w R) : CallsIn F n P f args w R := by
  rcases h with rfl | ⟨l, rfl⟩
  · exact callsIn_wide.2 hc
  · exact CallsIn.inRound l (callsIn_wide.2 hc)
theorem Wd.sem {F : Fence} (ρ : Operand → Value) (o : Oper) (h : ∀ c, o.op ≠ .defer c) : Oper.semAt F.round ρ o = execOp ρ o := by
  cases hr : F.round with
  | none => rfl
  | some l => exact Oper.semAt_some l ρ o h
theorem effUp.uponIn {F : Fence} (hF : Wd F) {m : Nat} {P : Program} {K : Value → World → Prop} {o : Oper} {a : Go.Act} {next : Go.Act → World → Prop} {Q : Exit → Go.Act → World → Prop} {r : Result Next}
    (h : effUp P K r) (hk : ∀ v w, K v w → next (a.put o.dst v) w) : o.uponIn F m P a next Q r := by
  unfold effUp at h
  split at h
  · exact hk _ _ h
  · exact hk _ _ h
  · exact ⟨fun hd => absurd hd hF.depth, hF.calls (Calls.mono h fun e w'' ⟨v, he, hv⟩ => by subst he; exact hk _ _ hv)⟩
  · exact h.elim
/-- The same frame, with calls that are put off. -/
def Act.ds (a : Go.Act) (ds : List Deferred) : Go.Act := { a with defers := ds }
theorem Act.ds_nil {n : Nat} {a : Go.Act} {E : List (Nat × Value)} (h : Env n a E) : Act.ds a [] = a := by
  have := h.defers
  cases a
  simp only at this
  subst this
  rfl
theorem Act.ds_put (a : Go.Act) (ds : List Deferred) (d : Option Nat) (v : Value) : (Act.ds a ds).put d v = Act.ds (a.put d v) ds := by cases d <;> rfl
theorem Act.ds_eval (a : Go.Act) (ds : List Deferred) : (Act.ds a ds).eval = a.eval := rfl
/-- What is asked, of the frame with its calls put off. -/
def Qd (ds : List Deferred) (Q : Exit → Go.Act → World → Prop) : Exit → Go.Act → World → Prop := fun e a w => Q e (Act.ds a ds) w
structure XI (F : Fence) (m : Nat) (ds : List Deferred) (P : Program) (W : World) (n : Nat) (ops : Array Oper) (Q : Exit → Go.Act → World → Prop) (rest : List Oper) (L : List Blk) (E : List (Nat × Value)) : Prop where mk ::
  run : ∀ a w, Env n a E → Hp W w L → wpListIn F m P ops Q rest (Act.ds a ds) w
structure XCI (F : Fence) (m : Nat) (ds : List Deferred) (P : Program) (W : World) (n : Nat) (c : Code) (Q : Exit → Go.Act → World → Prop) (L : List Blk) (E : List (Nat × Value)) : Prop where mk ::
  run : ∀ a w, Env n a E → Hp W w L → c.wpIn F m P Q (Act.ds a ds) w
section
variable {F : Fence} {m : Nat} {ds : List Deferred} {P : Program} {W : World} {n : Nat} {ops : Array Oper} {Q : Exit → Go.Act → World → Prop} {rest : List Oper} {L : List Blk} {E : List (Nat × Value)}
theorem xi_nil (h : XQ W n (Qd ds Q) .normal L E) : XI F m ds P W n ops Q [] L E := .mk fun a w ha hw => h.run a w ha hw
theorem xi_ef (hF : Wd F) {d : Option Nat} {op : Op} {t : TypeId} {pos : String} {after : Array Edge} (hnd : ∀ c, op ≠ .defer c)
    (hd : okd n d = true) (hr : EF P W n L E ⟨d, op, t, pos, after, none⟩ (fun v L' => XI F m ds P W n ops Q rest L' (pt E d v))) : XI F m ds P W n ops Q (⟨d, op, t, pos, after, none⟩ :: rest) L E := by
  refine ⟨fun a w ha hw => ?_⟩
  unfold wpListIn
  simp only [Region.wanted, if_true]
  refine ⟨fun f _ => hF.fn f, ?_⟩
  rw [Wd.sem (Act.ds a ds).eval ⟨d, op, t, pos, after, none⟩ hnd, Act.ds_eval]
  exact effUp.uponIn hF (hr.run a w ha hw) fun v w' ⟨L', h5, h7⟩ => by rw [Act.ds_put]; exact h7.run _ _ (ha.pt d v hd) h5
theorem xi_rd (hF : Wd F) {d : Option Nat} {op : Op} {t : TypeId} {pos : String} {after : Array Edge} {v : Value} (hnd : ∀ c, op ≠ .defer c)
    (hr : RD P W n L E ⟨d, op, t, pos, after, none⟩ v) (hd : okd n d = true) (h : XI F m ds P W n ops Q rest L (pt E d v)) : XI F m ds P W n ops Q (⟨d, op, t, pos, after, none⟩ :: rest) L E :=
  xi_ef hF hnd hd (ef_rd hr h)
/-- A call of a round: the round that was handed over. -/
theorem xi_yield (hF : Wd F) {d : Option Nat} {pos : String} {t : TypeId} {after : Array Edge} {c : Call} (hd : okd n d = true) {v : Value} {L' : List Blk}
    (hr : ∀ a w, Env n a E → Hp W w L → ∃ l f tmps assign body, (execOp a.eval ⟨d, .call c, t, pos, after, none⟩).run P w = .ok (.round l f tmps assign body) w ∧ RoundIn F (m - 1) P l f tmps assign body w fun e w' => e = .returned v ∧ Hp W w' L')
    (h : XI F m ds P W n ops Q rest L' (pt E d v)) : XI F m ds P W n ops Q (⟨d, .call c, t, pos, after, none⟩ :: rest) L E := by
  refine ⟨fun a w ha hw => ?_⟩
  obtain ⟨l, f, tmps, assign, body, h1, h2⟩ := hr a w ha hw
  unfold wpListIn
  simp only [Region.wanted, if_true]
  refine ⟨fun f _ => hF.fn f, ?_⟩
  rw [Wd.sem (Act.ds a ds).eval ⟨d, .call c, t, pos, after, none⟩ (fun _ h => by cases h), Act.ds_eval, h1]
  refine ⟨fun hd => absurd hd hF.depth, h2.mono ?_⟩
  rintro e w' ⟨rfl, hw'⟩
  show wpListIn F m P ops Q rest ((Act.ds a ds).put d v) w'
  rw [Act.ds_put]
  exact h.run _ _ (ha.pt d v hd) hw'
theorem xci_region {id : Nat} {l : List Oper} (h : XI F m ds P W n l.toArray Q l L E) : XCI F m ds P W n (.region id l.toArray false) Q L E := .mk fun a w ha hw => wpIn_region_lit (h.run a w ha hw)
theorem xci_wide {c : Code} (h : XC P W n c Q L E) : XCI Fence.wide m [] P W n c Q L E := .mk fun a w ha hw => by rw [Act.ds_nil ha]; exact wpIn_wide.2 (h.run a w ha hw)
theorem xc_of_wide {c : Code} (h : XCI Fence.wide m [] P W n c Q L E) : XC P W n c Q L E := .mk fun a w ha hw => by have := h.run a w ha hw; rw [Act.ds_nil ha] at this; exact wpIn_wide.1 this
theorem xci_seq {x y : Code} (h : XCI F m ds P W n x (Exit.then (fun a w => y.wpIn F m P Q a w) Q) L E) : XCI F m ds P W n (.seq x y) Q L E := .mk fun a w ha hw => wpIn_seq (h.run a w ha hw)
theorem xci_tail {y : Code} (h : XCI F m ds P W n y Q L E) : XQ W n (Qd ds (Exit.then (fun a w => y.wpIn F m P Q a w) Q)) .normal L E := .mk fun a w ha hw => h.run a w ha hw
theorem xci_block {id : Nat} {c : Code} (h : XCI F m ds P W n c (Exit.inBlock id Q) L E) : XCI F m ds P W n (.block id c) Q L E := .mk fun a w ha hw => wpIn_block (h.run a w ha hw)
theorem xci_skip (h : XQ W n (Qd ds Q) .normal L E) : XCI F m ds P W n .skip Q L E := .mk fun a w ha hw => wpIn_skip (h.run a w ha hw)
theorem xci_exit {id : Nat} (h : XQ W n (Qd ds Q) (.exit id) L E) : XCI F m ds P W n (.exit id) Q L E := .mk fun a w ha hw => wpIn_exit (h.run a w ha hw)
theorem xci_ret (h : XQ W n (Qd ds Q) .ret L E) : XCI F m ds P W n .ret Q L E := .mk fun a w ha hw => wpIn_ret (h.run a w ha hw)
theorem xci_cond {c : Operand} {x y : Code} {b : Bool} (hc : ev E c = some (.bool b)) (h1 : b = true → XCI F m ds P W n x Q L E) (h2 : b = false → XCI F m ds P W n y Q L E) : XCI F m ds P W n (.cond c x y) Q L E := .mk fun a w ha hw =>
  wpIn_cond_split (show (Act.ds a ds).eval c = .bool b from ha.eval hc) (fun h => (h1 h).run a w ha hw) (fun h => (h2 h).run a w ha hw)
/-- A loop, with what stands between two rounds. -/
theorem xci_loopI {c : Code} {ι : Type} (I : ι → Prop) (μ : ι → Nat) (Ls : ι → List Blk) (Es : ι → List (Nat × Value)) (i0 : ι) (h0 : I i0) (hL : L = Ls i0) (hE : ∀ i v, lk (Es i0) i = some v → lk E i = some v)
    (round : ∀ i, I i → XCI F m ds P W n c (Exit.then (fun a w => ∃ b, a = Act.ds b ds ∧ ∃ j, I j ∧ μ j < μ i ∧ Env n b (Es j) ∧ Hp W w (Ls j)) Q) (Ls i) (Es i)) : XCI F m ds P W n (.loop c) Q L E := by
  refine ⟨fun a w ha hw => ?_⟩
  subst hL
  refine wpIn_loop_ghost (fun k a' w' => ∃ b, a' = Act.ds b ds ∧ ∃ j, I j ∧ μ j = k ∧ Env n b (Es j) ∧ Hp W w' (Ls j)) (μ i0) ⟨a, rfl, i0, h0, rfl, ha.keep hE, hw⟩ ?_
  rintro k a' w' ⟨b, rfl, i, hi, rfl, h1, h2⟩
  refine wpIn_mono ((round i hi).run b w' h1 h2) ?_
  intro e a'' w'' q
  cases e with
  | normal => obtain ⟨b', q0, j, q1, q2, q3, q4⟩ := q; exact ⟨μ j, q2, b', q0, j, q1, rfl, q3, q4⟩
  | _ => exact q
theorem xqi_round {ι : Type} {I : ι → Prop} {μ : ι → Nat} {Ls : ι → List Blk} {Es : ι → List (Nat × Value)} {k : Nat} (j : ι) (hj : I j) (hm : μ j < k) (hL : L = Ls j) (hE : ∀ k v, lk (Es j) k = some v → lk E k = some v) :
    XQ W n (Qd ds (Exit.then (fun a w => ∃ b, a = Act.ds b ds ∧ ∃ j, I j ∧ μ j < k ∧ Env n b (Es j) ∧ Hp W w (Ls j)) Q)) .normal L E := .mk fun a w ha hw => ⟨a, rfl, j, hj, hm, ha.keep hE, hL ▸ hw⟩
end
end Go.Proofs.Ytoolgphkfnkajaa.X
