/-
  Words of my own for walks, ninth part: a region whose order is open, in which a cell is read and written: what stays is told by S; two that come up together are gone through in both orders. No condition; generic over the program.
-/
import Derived.Test.YtoolgphkfnkajaaX5
namespace Go.Proofs.Ytoolgphkfnkajaa.X
open Go Go.RowKit
set_option linter.unusedVariables false

structure XS (P : Program) (W : World) (n : Nat) (ops : Array Oper) (Q : Exit → Act → World → Prop) (S : World → Prop) (fuel : Nat) (listed : Array Bool) (L : List Blk) (E : List (Nat × Value)) : Prop where
  run : ∀ a w, Env n a E → Hp W w L → wpAnyH P .any ops (NoPanic Q) S fuel listed a w

section
variable {P : Program} {W : World} {n : Nat} {ops : Array Oper} {Q : Exit → Act → World → Prop} {S : World → Prop} {L : List Blk} {fuel : Nat} {listed : Array Bool} {E : List (Nat × Value)}
theorem xs_draw (S : World → Prop) {id : Nat} [hm : Mx P] (h : XS P W n ops Q S ops.size (Array.replicate ops.size false) L E) : XC P W n (.region id ops true) Q L E := .mk fun a w ha hw =>
  wp_region_noPanic (wp_region_held hm.h (h.run a _ ha hw.drew))
theorem xs_take (i : Nat) {d : Option Nat} {op : Op} {t : TypeId} {pos : String} {after : Array Edge} {v : Value} (hi : ops[i]? = some ⟨d, op, t, pos, after, none⟩)
    (hs : Region.noSelect ops = true) (hf : Region.free .any ops listed i = true) (hr : (Region.ready .any ops listed).contains i = true) (hM : ∀ w, Hp W w L → S w)
    (hv : ∀ w, S w → ∃ M, Hp W w M ∧ RD P W n M E ⟨d, op, t, pos, after, none⟩ v) (hd : okd n d = true) (h : XS P W n ops Q S fuel (listed.setIfInBounds i true) L (pt E d v)) : XS P W n ops Q S (fuel + 1) listed L E := .mk fun a w ha hw =>
  wpAnyH_take (v := v) hi hs hf hr (fun c a w hq => hq) (.inl ⟨rfl, fun w' hw' => by obtain ⟨M, h1, h2⟩ := hv w' hw'; exact h2.run a w' ha h1⟩) (hM w hw) (h.run _ w (ha.pt d v hd) hw)
theorem xs_step {i : Nat} {d : Option Nat} {op : Op} {t : TypeId} {pos : String} {after : Array Edge} (hi : ops[i]? = some ⟨d, op, t, pos, after, none⟩) (hd : okd n d = true)
    (hv : EF P W n L E ⟨d, op, t, pos, after, none⟩ (fun v L' => (∀ w, Hp W w L' → S w) ∧ XS P W n ops Q S fuel (listed.setIfInBounds i true) L' (pt E d v))) {a : Act} {w : World} (ha : Env n a E) (hw : Hp W w L) :
    wpOp P ops (NoPanic Q) i (fun a' w' => S w' ∧ wpAnyH P .any ops (NoPanic Q) S fuel (listed.setIfInBounds i true) a' w') a w := by
  unfold wpOp
  simp only [hi, Region.wanted, if_true]
  refine .inl ?_
  unfold Oper.wp
  exact effUp.upon (hv.run a w ha hw) fun v w' ⟨L', h1, h2, h3⟩ => ⟨h2 _ h1, h3.run _ _ (ha.pt d v hd) h1⟩
theorem xs_one (i : Nat) {d : Option Nat} {op : Op} {t : TypeId} {pos : String} {after : Array Edge} (hi : ops[i]? = some ⟨d, op, t, pos, after, none⟩)
    (hr : Region.ready .any ops listed = [i]) (hd : okd n d = true)
    (hv : EF P W n L E ⟨d, op, t, pos, after, none⟩ (fun v L' => (∀ w, Hp W w L' → S w) ∧ XS P W n ops Q S fuel (listed.setIfInBounds i true) L' (pt E d v))) : XS P W n ops Q S (fuel + 1) listed L E := .mk fun a w ha hw => by
  refine wpAnyH_all hr (by simp) fun j hj => ?_
  obtain rfl : j = i := by simpa using hj
  exact xs_step hi hd hv ha hw
theorem xs_two (i k : Nat) {d d2 : Option Nat} {op op2 : Op} {t t2 : TypeId} {pos pos2 : String} {after after2 : Array Edge} (hi : ops[i]? = some ⟨d, op, t, pos, after, none⟩) (hk : ops[k]? = some ⟨d2, op2, t2, pos2, after2, none⟩)
    (hr : Region.ready .any ops listed = [i, k]) (hd : okd n d = true) (hd2 : okd n d2 = true)
    (hv : EF P W n L E ⟨d, op, t, pos, after, none⟩ (fun v L' => (∀ w, Hp W w L' → S w) ∧ XS P W n ops Q S fuel (listed.setIfInBounds i true) L' (pt E d v)))
    (hv2 : EF P W n L E ⟨d2, op2, t2, pos2, after2, none⟩ (fun v L' => (∀ w, Hp W w L' → S w) ∧ XS P W n ops Q S fuel (listed.setIfInBounds k true) L' (pt E d2 v))) : XS P W n ops Q S (fuel + 1) listed L E := .mk fun a w ha hw => by
  refine wpAnyH_all hr (by simp) fun j hj => ?_
  have hj' : j = i ∨ j = k := by simpa using hj
  rcases hj' with rfl | rfl
  · exact xs_step hi hd hv ha hw
  · exact xs_step hk hd2 hv2 ha hw
theorem xs_done (hr : Region.ready .any ops listed = []) (h : XQ W n Q .normal L E) : XS P W n ops Q S fuel listed L E := .mk fun a w ha hw =>
  wpAnyH_done (Q := NoPanic Q) hr (h.run a w ha hw) fuel
end
section
variable {P : Program} {W : World} {n : Nat} {L : List Blk} {E : List (Nat × Value)}
/-- The results are one whole block, and a value. -/
theorem xq_retB2 {K : Value → List Blk → Prop} {fn : Func} {t u T b m : Nat} {vs : List Value} {x : Value} {T' : TypeId} {fr : Nat × Nat} {e : Exit} [hA : Ta P T true] [hS : Ts P T m] (he : e = .ret ∨ e = .normal) (hr : fn.results = #[.cell t T, .tmp u]) (ht : lk E t = some (.pointer (some ⟨b, 0, none⟩)))
    (hu : lk E u = some x) (hk : Kn W L b (.cells vs.toArray T' fr)) (hm : vs.length = m) {L' : List Blk} (hL : L'.Sublist L) (h : K (.tuple #[.agg vs.toArray, x]) L') : XQ W n (bodyPost P fn (XP W K)) e L E :=
  xq_retg' hL he (fun a w ha hw => by
    have h1 := hA.h w
    have h2 := hS.h w
    subst hm
    have hl := run_loadCells_list (P := P) w ⟨b, 0, none⟩ vs (fun j v hj => by
      rw [add_zero', Nat.zero_add]
      exact (Cl.get (L := L) ⟨_, _, _, hk, by simpa using hj⟩ hw))
    have hv := ha.val t _ ht
    have hv2 := ha.val u _ hu
    simp [results, hr, Array.getD_eq_getD_getElem?, hv, hv2, asAddr, loadVar, h1, h2, hl]) h
end
end Go.Proofs.Ytoolgphkfnkajaa.X
