/-
  Words of my own for walks, fourth part: a region whose order is open: reads may be taken as soon as they may come up; what writes or calls comes alone. No condition; generic over the program.
-/
import Derived.Test.YtoolgphkfnkajaaX3
namespace Go.Proofs.Ytoolgphkfnkajaa.X
open Go Go.RowKit
set_option linter.unusedVariables false

class Mx (P : Program) : Prop where h : P.follows .mixedOrders = true
/-- M is among L. -/
def Sb (M L : List Blk) : Prop := ∃ R, L.Perm (M ++ R)
theorem Sb.hp {W w : World} {M L : List Blk} (h : Sb M L) (hw : Hp W w L) : Hp W w M := by
  obtain ⟨R, hp⟩ := h
  exact (hw.perm hp).sub (List.sublist_append_left M R)
theorem Sb.nil {L : List Blk} : Sb [] L := ⟨L, by simp⟩
theorem Sb.refl {L : List Blk} : Sb L L := ⟨[], by simp⟩
theorem Sb.cons {p : Blk} {M L : List Blk} (h : Sb M L) : Sb M (p :: L) := by
  obtain ⟨R, hp⟩ := h
  exact ⟨p :: R, (hp.cons p).trans List.perm_middle.symm⟩
theorem Sb.keep {p : Blk} {M L : List Blk} (h : Sb M L) : Sb (p :: M) (p :: L) := by
  obtain ⟨R, hp⟩ := h
  exact ⟨R, hp.cons p⟩
theorem Sb.app {A M L : List Blk} (h : Sb M L) : Sb M (A ++ L) := by
  obtain ⟨R, hp⟩ := h
  exact ⟨A ++ R, ((List.Perm.refl A).append hp).trans (by rw [← List.append_assoc, ← List.append_assoc]; exact List.perm_append_comm.append_right R)⟩
theorem Sb.keepApp {A M L : List Blk} (h : Sb M L) : Sb (A ++ M) (A ++ L) := by
  obtain ⟨R, hp⟩ := h
  exact ⟨R, ((List.Perm.refl A).append hp).trans (by rw [List.append_assoc])⟩

structure XR (P : Program) (W : World) (n : Nat) (ops : Array Oper) (Q : Exit → Act → World → Prop) (M : List Blk) (fuel : Nat) (listed : Array Bool) (L : List Blk) (E : List (Nat × Value)) : Prop where
  run : ∀ a w, Env n a E → Hp W w L → wpAnyH P .any ops (NoPanic Q) (fun w => Hp W w M) fuel listed a w

section
variable {P : Program} {W : World} {n : Nat} {ops : Array Oper} {Q : Exit → Act → World → Prop} {M L : List Blk} {fuel : Nat} {listed : Array Bool} {E : List (Nat × Value)}
theorem xc_draw (M : List Blk) {id : Nat} [hm : Mx P] (h : XR P W n ops Q M ops.size (Array.replicate ops.size false) L E) : XC P W n (.region id ops true) Q L E := .mk fun a w ha hw =>
  wp_region_noPanic (wp_region_held hm.h (h.run a _ ha hw.drew))
theorem xr_take (i : Nat) {d : Option Nat} {op : Op} {t : TypeId} {pos : String} {after : Array Edge} {v : Value} (hi : ops[i]? = some ⟨d, op, t, pos, after, none⟩)
    (hs : Region.noSelect ops = true) (hf : Region.free .any ops listed i = true) (hr : (Region.ready .any ops listed).contains i = true) (hM : Sb M L)
    (hv : RD P W n M E ⟨d, op, t, pos, after, none⟩ v) (hd : okd n d = true) (h : XR P W n ops Q M fuel (listed.setIfInBounds i true) L (pt E d v)) : XR P W n ops Q M (fuel + 1) listed L E := .mk fun a w ha hw =>
  wpAnyH_take (v := v) hi hs hf hr (fun c a w hq => hq) (.inl ⟨rfl, fun w' hw' => hv.run a w' ha hw'⟩) (hM.hp hw) (h.run _ w (ha.pt d v hd) hw)
theorem xr_gtake (i : Nat) {d : Option Nat} {op : Op} {t : TypeId} {pos : String} {after : Array Edge} {v : Value} {g gt : Nat} {b : Bool} (hi : ops[i]? = some ⟨d, op, t, pos, after, some (g, b)⟩)
    (hs : Region.noSelect ops = true) (hf : Region.free .any ops listed i = true) (hr : (Region.ready .any ops listed).contains i = true) (hM : Sb M L)
    (hg : (ops[g]?).bind (·.dst) = some gt) (ht : lk E gt = some (.bool b))
    (hv : RD P W n M E ⟨d, op, t, pos, after, some (g, b)⟩ v) (hd : okd n d = true) (h : XR P W n ops Q M fuel (listed.setIfInBounds i true) L (pt E d v)) : XR P W n ops Q M (fuel + 1) listed L E := .mk fun a w ha hw =>
  wpAnyH_take (v := v) hi hs hf hr (fun c a w hq => hq) (.inl ⟨by simp [Region.wanted, yielded_of (ops := ops) ha hg ht], fun w' hw' => hv.run a w' ha hw'⟩) (hM.hp hw) (h.run _ w (ha.pt d v hd) hw)
theorem xr_gskip (i : Nat) {d : Option Nat} {op : Op} {t : TypeId} {pos : String} {after : Array Edge} {g gt : Nat} {b c : Bool} (hi : ops[i]? = some ⟨d, op, t, pos, after, some (g, b)⟩)
    (hs : Region.noSelect ops = true) (hf : Region.free .any ops listed i = true) (hr : (Region.ready .any ops listed).contains i = true) (hM : Sb M L)
    (hg : (ops[g]?).bind (·.dst) = some gt) (ht : lk E gt = some (.bool c)) (hc : (c == b) = false)
    (hd : okd n d = true) (h : XR P W n ops Q M fuel (listed.setIfInBounds i true) L (pt E d undef)) : XR P W n ops Q M (fuel + 1) listed L E := .mk fun a w ha hw =>
  wpAnyH_take (v := undef) hi hs hf hr (fun c a w hq => hq) (.inr ⟨by simpa [Region.wanted, yielded_of (ops := ops) ha hg ht] using hc, rfl⟩) (hM.hp hw) (h.run _ w (ha.pt d undef hd) hw)
theorem xr_one (i : Nat) {d : Option Nat} {op : Op} {t : TypeId} {pos : String} {after : Array Edge} (hi : ops[i]? = some ⟨d, op, t, pos, after, none⟩)
    (hr : Region.ready .any ops listed = [i]) (hd : okd n d = true)
    (hv : EF P W n L E ⟨d, op, t, pos, after, none⟩ (fun v L' => Sb M L' ∧ XR P W n ops Q M fuel (listed.setIfInBounds i true) L' (pt E d v))) : XR P W n ops Q M (fuel + 1) listed L E := .mk fun a w ha hw => by
  refine wpAnyH_all hr (by simp) fun j hj => ?_
  obtain rfl : j = i := by simpa using hj
  unfold wpOp
  simp only [hi, Region.wanted, if_true]
  refine .inl ?_
  unfold Oper.wp
  exact effUp.upon (hv.run a w ha hw) fun v w' ⟨L', h1, h2, h3⟩ => ⟨h2.hp h1, h3.run _ _ (ha.pt d v hd) h1⟩
theorem xr_gone (i : Nat) {d : Option Nat} {op : Op} {t : TypeId} {pos : String} {after : Array Edge} {g gt : Nat} {b : Bool} (hi : ops[i]? = some ⟨d, op, t, pos, after, some (g, b)⟩)
    (hr : Region.ready .any ops listed = [i]) (hd : okd n d = true) (hg : (ops[g]?).bind (·.dst) = some gt) (ht : lk E gt = some (.bool b))
    (hv : EF P W n L E ⟨d, op, t, pos, after, some (g, b)⟩ (fun v L' => Sb M L' ∧ XR P W n ops Q M fuel (listed.setIfInBounds i true) L' (pt E d v))) : XR P W n ops Q M (fuel + 1) listed L E := .mk fun a w ha hw => by
  refine wpAnyH_all hr (by simp) fun j hj => ?_
  obtain rfl : j = i := by simpa using hj
  unfold wpOp
  simp only [hi, Region.wanted, yielded_of (ops := ops) ha hg ht, beq_self_eq_true, if_true]
  refine .inl ?_
  unfold Oper.wp
  exact effUp.upon (hv.run a w ha hw) fun v w' ⟨L', h1, h2, h3⟩ => ⟨h2.hp h1, h3.run _ _ (ha.pt d v hd) h1⟩
theorem xr_done (hr : Region.ready .any ops listed = []) (h : XQ W n Q .normal L E) : XR P W n ops Q M fuel listed L E := .mk fun a w ha hw =>
  wpAnyH_done (Q := NoPanic Q) hr (h.run a w ha hw) fuel
theorem xr_split (t : Nat) {b : Bool} (ht : lk E t = some (.bool b)) (h1 : b = true → XR P W n ops Q M fuel listed L ((t, .bool true) :: E)) (h2 : b = false → XR P W n ops Q M fuel listed L ((t, .bool false) :: E)) : XR P W n ops Q M fuel listed L E := by
  refine ⟨fun a w ha hw => ?_⟩
  have hk : ∀ c, b = c → Env n a ((t, .bool c) :: E) := fun c hc => ha.keep (keep_cons (by rw [ht, hc]) (fun _ _ h => h))
  cases hb : b
  · exact (h2 hb).run a w (hk _ hb) hw
  · exact (h1 hb).run a w (hk _ hb) hw
end
end Go.Proofs.Ytoolgphkfnkajaa.X
