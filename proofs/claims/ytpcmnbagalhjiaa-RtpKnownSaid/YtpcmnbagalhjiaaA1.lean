/-
  What a packet's bytes are, by lists: plain, no program.
-/
import Derived.Test.YtpcmnbagalhjiaaX18
namespace Go.Proofs.Ytpcmnbagalhjiaa.X
open Go Go.RowKit
set_option linter.unusedVariables false
set_option linter.unusedSimpArgs false
def be2 (n : Int) : List Int := [n / 256 % 256, n % 256]
def be4 (n : Int) : List Int := [n / 16777216 % 256, n / 65536 % 256, n / 256 % 256, n % 256]
def vl (l : List Int) : Int := l.foldl (fun n c => n * 256 + c) 0
theorem vl_be2 (n : Int) (h0 : 0 ≤ n) (h1 : n ≤ 65535) : vl (be2 n) = n := by simp only [vl, be2, List.foldl]; omega
theorem vl_be4 (n : Int) (h0 : 0 ≤ n) (h1 : n ≤ 4294967295) : vl (be4 n) = n := by simp only [vl, be4, List.foldl]; omega
def By (n : Int) : Prop := 0 ≤ n ∧ n ≤ 255
theorem be2_vl (a b : Int) (ha : By a) (hb : By b) : be2 (vl [a, b]) = [a, b] := by
  unfold By at *
  simp only [vl, be2, List.foldl, List.cons.injEq, and_true]; omega
theorem be4_vl (a b c d : Int) (ha : By a) (hb : By b) (hc : By c) (hd : By d) : be4 (vl [a, b, c, d]) = [a, b, c, d] := by
  unfold By at *
  simp only [vl, be4, List.foldl, List.cons.injEq, and_true]; omega
structure Pk where
  mr : Bool
  ty : Int
  sq : Int
  tm : Int
  ss : Int
  cs : List Int
  hx : Bool
  pf : Int
  ex : List Int
  pl : List Int
  pd : Int
deriving DecidableEq
def Pk.zero : Pk := ⟨false, 0, 0, 0, 0, [], false, 0, [], [], 0⟩
def U4 (n : Int) : Prop := 0 ≤ n ∧ n ≤ 4294967295
def U2 (n : Int) : Prop := 0 ≤ n ∧ n ≤ 65535
structure Pk.Rg (p : Pk) : Prop where
  ty : By p.ty
  sq : U2 p.sq
  tm : U4 p.tm
  ss : U4 p.ss
  cs : ∀ x, x ∈ p.cs → U4 x
  pf : U2 p.pf
  ex : ∀ x, x ∈ p.ex → By x
  pl : ∀ x, x ∈ p.pl → By x
  pd : By p.pd
def Pk.Right (p : Pk) : Prop := p.ty < 128 ∧ p.cs.length ≤ 15 ∧ p.ex.length % 4 = 0 ∧ p.ex.length / 4 ≤ 65535 ∧ (p.hx = true ∨ p.pf = 0 ∧ p.ex = [])
instance (p : Pk) : Decidable p.Right := by unfold Pk.Right; infer_instance
def Pk.size (p : Pk) : Int := 12 + 4 * p.cs.length + p.ex.length + p.pl.length + p.pd + if p.hx then 4 else 0
def fst8 (p : Pk) : Int := 128 + p.cs.length + (if 0 < p.pd then 32 else 0) + if p.hx then 16 else 0
def snd8 (p : Pk) : Int := p.ty + if p.mr then 128 else 0
def hdL (p : Pk) : List Int := [fst8 p, snd8 p] ++ be2 p.sq ++ be4 p.tm ++ be4 p.ss
def extL (p : Pk) : List Int := if p.hx then be2 p.pf ++ be2 ((p.ex.length : Int) / 4) ++ p.ex else []
def tailL (pd : Int) : List Int := if 0 < pd then List.replicate (pd - 1).toNat 0 ++ [pd] else []
def putL (p : Pk) : List Int := hdL p ++ (p.cs.flatMap be4 ++ (extL p ++ (p.pl ++ tailL p.pd)))
theorem tailL_len (pd : Int) (h : 0 ≤ pd) : ((tailL pd).length : Int) = pd := by
  unfold tailL
  split
  · simp; omega
  · simp; omega
theorem flat4_len (l : List Int) : (l.flatMap be4).length = 4 * l.length := by
  induction l with
  | nil => rfl
  | cons a r ih => rw [List.flatMap_cons, List.length_append, ih]; simp [be4]; omega
theorem putL_len (p : Pk) (h : 0 ≤ p.pd) (hr : p.hx = true ∨ p.pf = 0 ∧ p.ex = []) : ((putL p).length : Int) = p.size := by
  unfold putL Pk.size hdL extL
  have := tailL_len p.pd h
  simp only [List.length_append, flat4_len]
  by_cases hx : p.hx = true
  · rw [if_pos hx, if_pos hx]; simp [be2, be4]; omega
  · rw [if_neg hx, if_neg hx]
    rcases hr with hr | hr
    · exact absurd hr hx
    · rw [hr.2]; simp [be2, be4]; omega
def chunks : Nat → List Int → List Int
  | 0, _ => []
  | k + 1, l => vl (l.take 4) :: chunks k (l.drop 4)
theorem chunks_len : ∀ (k : Nat) (l : List Int), (chunks k l).length = k
  | 0, _ => rfl
  | k + 1, l => by show (chunks k (l.drop 4)).length + 1 = k + 1; rw [chunks_len]
theorem chunks_app : ∀ (l X : List Int), (∀ x, x ∈ l → U4 x) → chunks l.length (l.flatMap be4 ++ X) = l ∧ (l.flatMap be4 ++ X).drop (4 * l.length) = X
  | [], X, _ => ⟨rfl, rfl⟩
  | a :: r, X, h => by
    obtain ⟨h1, h2⟩ := chunks_app r X fun x hx => h x (List.mem_cons_of_mem _ hx)
    have ha := h a (List.mem_cons_self ..)
    have e : ((a :: r).flatMap be4 ++ X) = be4 a ++ (r.flatMap be4 ++ X) := by rw [List.flatMap_cons, List.append_assoc]
    rw [e]
    refine ⟨?_, ?_⟩
    · show vl ((be4 a ++ (r.flatMap be4 ++ X)).take 4) :: chunks r.length ((be4 a ++ (r.flatMap be4 ++ X)).drop 4) = a :: r
      rw [show (be4 a ++ (r.flatMap be4 ++ X)).take 4 = be4 a from rfl, show (be4 a ++ (r.flatMap be4 ++ X)).drop 4 = r.flatMap be4 ++ X from rfl, h1, vl_be4 a ha.1 ha.2]
    · rw [show 4 * (a :: r).length = 4 + 4 * r.length from by simp; omega, ← List.drop_drop, show (be4 a ++ (r.flatMap be4 ++ X)).drop 4 = r.flatMap be4 ++ X from rfl, h2]
theorem chunks_inv : ∀ (k : Nat) (l : List Int), 4 * k ≤ l.length → (∀ x, x ∈ l → By x) → l = (chunks k l).flatMap be4 ++ l.drop (4 * k) ∧ ∀ x, x ∈ chunks k l → U4 x
  | 0, l, _, _ => ⟨rfl, fun x h => by cases h⟩
  | k + 1, a :: b :: c :: d :: r, hl, hb => by
    have h4 : ∀ x, x ∈ [a, b, c, d] → By x := fun x hx => hb x (by simp at hx ⊢; rcases hx with h | h | h | h <;> simp [h])
    obtain ⟨h1, h2⟩ := chunks_inv k r (by simp at hl; omega) fun x hx => hb x (by simp [hx])
    have ha := h4 a (by simp); have hb' := h4 b (by simp); have hc := h4 c (by simp); have hd := h4 d (by simp)
    refine ⟨?_, ?_⟩
    · show a :: b :: c :: d :: r = (vl [a, b, c, d] :: chunks k r).flatMap be4 ++ (a :: b :: c :: d :: r).drop (4 * (k + 1))
      rw [List.flatMap_cons, be4_vl a b c d ha hb' hc hd, show 4 * (k + 1) = 4 * k + 4 from by omega]
      show a :: b :: c :: d :: r = [a, b, c, d] ++ (chunks k r).flatMap be4 ++ r.drop (4 * k)
      rw [List.append_assoc, ← h1]; rfl
    · intro x hx
      rcases List.mem_cons.1 hx with rfl | hx
      · show U4 (vl [a, b, c, d])
        unfold By U4 at *
        simp only [vl, List.foldl]; omega
      · exact h2 x hx
  | k + 1, [], hl, _ => by simp at hl
  | k + 1, [_], hl, _ => by simp at hl; omega
  | k + 1, [_, _], hl, _ => by simp at hl; omega
  | k + 1, [_, _, _], hl, _ => by simp at hl; omega
/-- An extension: whether it is, its profile, its bytes, and what is left. -/
def parseE (f : Int) (r : List Int) : Option (Bool × Int × List Int × List Int) :=
  if f / 16 % 2 = 1 then
    if r.length < 4 then none
    else if ((r.drop 4).length : Int) < 4 * vl ((r.drop 2).take 2) then none
    else some (true, vl (r.take 2), (r.drop 4).take (4 * vl ((r.drop 2).take 2)).toNat, (r.drop 4).drop (4 * vl ((r.drop 2).take 2)).toNat)
  else some (false, 0, [], r)
/-- The payload, and the padding. -/
def parseP (f : Int) (r : List Int) : Option (List Int × Int) :=
  if f / 32 % 2 = 1 then
    if r.length = 0 ∨ r.getD (r.length - 1) 0 = 0 ∨ (r.length : Int) < r.getD (r.length - 1) 0 then none
    else some (r.take (r.length - r.getD (r.length - 1) 0).toNat, r.getD (r.length - 1) 0)
  else some (r, 0)
def parseL (b : List Int) : Int × Pk :=
  if b.length < 12 then (10, .zero)
  else if b.getD 0 0 / 64 ≠ 2 then (20, .zero)
  else if (b.drop 12).length < 4 * (b.getD 0 0 % 16).toNat then (10, .zero)
  else match parseE (b.getD 0 0) ((b.drop 12).drop (4 * (b.getD 0 0 % 16).toNat)) with
    | none => (10, .zero)
    | some (hx, pf, ex, r) => match parseP (b.getD 0 0) r with
      | none => (21, .zero)
      | some (pl, pd) => (0, ⟨decide (128 ≤ b.getD 1 0), b.getD 1 0 % 128, vl ((b.drop 2).take 2), vl ((b.drop 4).take 4), vl ((b.drop 8).take 4), chunks (b.getD 0 0 % 16).toNat (b.drop 12), hx, pf, ex, pl, pd⟩)
theorem chunks_snoc : ∀ (k : Nat) (l : List Int), chunks (k + 1) l = chunks k l ++ [vl ((l.drop (4 * k)).take 4)]
  | 0, l => rfl
  | k + 1, l => by
    show vl (l.take 4) :: chunks (k + 1) (l.drop 4) = vl (l.take 4) :: chunks k (l.drop 4) ++ _
    rw [chunks_snoc k (l.drop 4), List.drop_drop, show 4 + 4 * k = 4 * (k + 1) from by omega]
    rfl
end Go.Proofs.Ytpcmnbagalhjiaa.X
