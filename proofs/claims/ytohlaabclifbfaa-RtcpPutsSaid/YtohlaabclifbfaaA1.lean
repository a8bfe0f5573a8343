/-
  What a compound's bytes are, by lists: plain, no program.
-/
import Derived.Test.YtohlaabclifbfaaX20
namespace Go.Proofs.Ytohlaabclifbfaa.X
open Go Go.RowKit
set_option linter.unusedVariables false
set_option linter.unusedSimpArgs false
def be2 (n : Int) : List Int := [n / 256 % 256, n % 256]
def be4 (n : Int) : List Int := [n / 16777216 % 256, n / 65536 % 256, n / 256 % 256, n % 256]
def vl (l : List Int) : Int := l.foldl (fun n c => n * 256 + c) 0
theorem vl_be2 (n : Int) (h0 : 0 ≤ n) (h1 : n ≤ 65535) : vl (be2 n) = n := by simp only [vl, be2, List.foldl]; omega
theorem vl_be4 (n : Int) (h0 : 0 ≤ n) (h1 : n ≤ 4294967295) : vl (be4 n) = n := by simp only [vl, be4, List.foldl]; omega
def By (n : Int) : Prop := 0 ≤ n ∧ n ≤ 255
theorem be2_vl (a b : Int) (ha : By a) (hb : By b) : be2 (vl [a, b]) = [a, b] := by
  unfold By at *
  simp only [vl, be2, List.foldl, List.cons.injEq, and_true]; omega
theorem be4_vl (a b c d : Int) (ha : By a) (hb : By b) (hc : By c) (hd : By d) : be4 (vl [a, b, c, d]) = [a, b, c, d] := by
  unfold By at *
  simp only [vl, be4, List.foldl, List.cons.injEq, and_true]; omega
def U4 (n : Int) : Prop := 0 ≤ n ∧ n ≤ 4294967295
def U2 (n : Int) : Prop := 0 ≤ n ∧ n ≤ 65535
def tailL (pd : Int) : List Int := if 0 < pd then List.replicate (pd - 1).toNat 0 ++ [pd] else []
theorem tailL_len (pd : Int) (h : 0 ≤ pd) : ((tailL pd).length : Int) = pd := by
  unfold tailL
  split
  · simp; omega
  · simp; omega
structure Pc where
  ct : Int
  kd : Int
  bd : List Int
  pd : Int
deriving DecidableEq
def Pc.zero : Pc := ⟨0, 0, [], 0⟩
structure Pc.Rg (p : Pc) : Prop where
  ct : By p.ct
  kd : By p.kd
  bd : ∀ x, x ∈ p.bd → By x
  pd : By p.pd
theorem Pc.zero_rg : Pc.zero.Rg := ⟨⟨by decide, by decide⟩, ⟨by decide, by decide⟩, fun x h => (by cases h), ⟨by decide, by decide⟩⟩
def Pc.Right (p : Pc) : Prop := p.ct ≤ 31 ∧ p.bd.length % 4 = 0 ∧ p.pd % 4 = 0 ∧ (p.bd.length : Int) + p.pd ≤ 262140
instance (p : Pc) : Decidable p.Right := by unfold Pc.Right; infer_instance
def Pc.enc (p : Pc) (v : Value) : List Value := [.int .u8 p.ct, .int .u8 p.kd, v, .int .u8 p.pd]
def isFirst (k : Int) : Bool := decide (k = 200 ∨ k = 201)
def fst6 (p : Pc) : Int := 128 + p.ct + if 0 < p.pd then 32 else 0
def putP (p : Pc) : List Int := [fst6 p, p.kd] ++ be2 (((p.bd.length : Int) + p.pd) / 4) ++ (p.bd ++ tailL p.pd)
/-- May these be joined? -/
def okJ : List Pc → Bool
  | [] => true
  | q :: r => decide q.Right && (decide (q.pd ≤ 0) || r.isEmpty) && okJ r
def kind0 : List Pc → Int
  | [] => 0
  | q :: _ => q.kd
def joinL (l : List Pc) : List Int × Int :=
  if l = [] then ([], 2) else if okJ l then (if isFirst (kind0 l) then (l.flatMap putP, 0) else ([], 60)) else ([], 2)
/-- One packet off bytes: the error, it, and what is left. -/
def takeT (b0 b1 : Int) (k : Nat) (t : List Int) (f : Bool) : Int × Pc × List Int :=
  if b0 / 64 ≠ 2 then (20, .zero, [])
  else if f = true ∧ isFirst b1 = false then (60, .zero, [])
  else if t.length < k then (61, .zero, [])
  else if b0 / 32 % 2 = 1 then
    if k < t.length ∨ k = 0 ∨ t.getD (k - 1) 0 = 0 ∨ t.getD (k - 1) 0 % 4 ≠ 0 ∨ (k : Int) < t.getD (k - 1) 0 then (21, .zero, [])
    else (0, ⟨b0 % 32, b1, t.take (k - (t.getD (k - 1) 0).toNat), t.getD (k - 1) 0⟩, [])
  else (0, ⟨b0 % 32, b1, t.take k, 0⟩, t.drop k)
def takeP : List Int → Bool → Int × Pc × List Int
  | b0 :: b1 :: b2 :: b3 :: t, f => takeT b0 b1 (4 * vl [b2, b3]).toNat t f
  | _, _ => (10, .zero, [])
def splitL : Nat → Bool → List Int → List Pc × Int
  | 0, _, _ => ([], 0)
  | k + 1, f, b =>
    if b = [] ∧ f = false then ([], 0)
    else if (takeP b f).1 ≠ 0 then ([], (takeP b f).1)
    else if (splitL k false (takeP b f).2.2).2 ≠ 0 then ([], (splitL k false (takeP b f).2.2).2)
    else ((takeP b f).2.1 :: (splitL k false (takeP b f).2.2).1, 0)
/-- What was read, and what the rest gives. -/
def comb (qs : List Pc) (z : List Pc × Int) : List Pc × Int := if z.2 ≠ 0 then ([], z.2) else (qs ++ z.1, 0)
end Go.Proofs.Ytohlaabclifbfaa.X
