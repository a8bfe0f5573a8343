/-
  The arguments of the rows: packets.
-/
import Derived.Test.YtpcmnbagalhjiaaB6
import Derived.Test.YtpcmnbagalhjiaaX7
namespace Go.Proofs.Ytpcmnbagalhjiaa.X
open Go Go.RowKit
set_option linter.unusedVariables false
set_option linter.unusedSimpArgs false
structure Pkt where
  f0 : Bool
  f1 : Int
  f2 : Int
  f3 : Int
  f4 : Int
  f5 : (SlV Int)
  f6 : Bool
  f7 : Int
  f8 : (SlV Int)
  f9 : (SlV Int)
  f10 : Int
def Pkt.enc (x : Pkt) : List Value := [.bool x.f0, .int .u8 x.f1, .int .u16 x.f2, .int .u32 x.f3, .int .u32 x.f4, .slice x.f5.p x.f5.n x.f5.c, .bool x.f6, .int .u16 x.f7, .slice x.f8.p x.f8.n x.f8.c, .slice x.f9.p x.f9.n x.f9.c, .int .u8 x.f10]
theorem Pkt.len (x : Pkt) : x.enc.length = 11 := rfl
def Pkt.Good (W : World) (x : Pkt) : Prop := (fun _ => True) x.f0 ∧ (InK .u8) x.f1 ∧ (InK .u16) x.f2 ∧ (InK .u32) x.f3 ∧ (InK .u32) x.f4 ∧ (SlV.Good W (fun n : Int => [Value.int .u32 n]) (InK .u32)) x.f5 ∧ (fun _ => True) x.f6 ∧ (InK .u16) x.f7 ∧ (SlV.Good W (fun n : Int => [Value.int .u8 n]) (InK .u8)) x.f8 ∧ (SlV.Good W (fun n : Int => [Value.int .u8 n]) (InK .u8)) x.f9 ∧ (InK .u8) x.f10
theorem Pkt.op {W : World} : Op' Try.prog W 33 Pkt.enc (Pkt.Good W) := fun encH fuel cs y h => by
  have hl := op_len (T := 33) (i := 0) h
  obtain ⟨a0, e0, g0⟩ := op_field' (T := 33) (i := 0) op_bool h
  obtain ⟨a1, e1, g1⟩ := op_field' (T := 33) (i := 1) op_int h
  obtain ⟨a2, e2, g2⟩ := op_field' (T := 33) (i := 2) op_int h
  obtain ⟨a3, e3, g3⟩ := op_field' (T := 33) (i := 3) op_int h
  obtain ⟨a4, e4, g4⟩ := op_field' (T := 33) (i := 4) op_int h
  obtain ⟨a5, e5, g5⟩ := op_field' (T := 33) (i := 5) (op_slice (T := 27) (e := 26) op_int (fun _ => rfl) (by decide)) h
  obtain ⟨a6, e6, g6⟩ := op_field' (T := 33) (i := 6) op_bool h
  obtain ⟨a7, e7, g7⟩ := op_field' (T := 33) (i := 7) op_int h
  obtain ⟨a8, e8, g8⟩ := op_field' (T := 33) (i := 8) (op_slice (T := 22) (e := 5) op_int (fun _ => rfl) (by decide)) h
  obtain ⟨a9, e9, g9⟩ := op_field' (T := 33) (i := 9) (op_slice (T := 22) (e := 5) op_int (fun _ => rfl) (by decide)) h
  obtain ⟨a10, e10, g10⟩ := op_field' (T := 33) (i := 10) op_int h
  refine ⟨⟨a0, a1, a2, a3, a4, a5, a6, a7, a8, a9, a10⟩, ?_, ⟨g0, g1, g2, g3, g4, g5, g6, g7, g8, g9, g10⟩⟩
  obtain ⟨c0, c1, c2, c3, c4, c5, c6, c7, c8, c9, c10, rfl⟩ := list11 hl
  have e0' : [c0] = (fun b : Bool => [Value.bool b]) a0 := e0
  have e1' : [c1] = (fun n : Int => [Value.int .u8 n]) a1 := e1
  have e2' : [c2] = (fun n : Int => [Value.int .u16 n]) a2 := e2
  have e3' : [c3] = (fun n : Int => [Value.int .u32 n]) a3 := e3
  have e4' : [c4] = (fun n : Int => [Value.int .u32 n]) a4 := e4
  have e5' : [c5] = (SlV.enc (α := Int)) a5 := e5
  have e6' : [c6] = (fun b : Bool => [Value.bool b]) a6 := e6
  have e7' : [c7] = (fun n : Int => [Value.int .u16 n]) a7 := e7
  have e8' : [c8] = (SlV.enc (α := Int)) a8 := e8
  have e9' : [c9] = (SlV.enc (α := Int)) a9 := e9
  have e10' : [c10] = (fun n : Int => [Value.int .u8 n]) a10 := e10
  show _ = (fun b : Bool => [Value.bool b]) a0 ++ (fun n : Int => [Value.int .u8 n]) a1 ++ (fun n : Int => [Value.int .u16 n]) a2 ++ (fun n : Int => [Value.int .u32 n]) a3 ++ (fun n : Int => [Value.int .u32 n]) a4 ++ (SlV.enc (α := Int)) a5 ++ (fun b : Bool => [Value.bool b]) a6 ++ (fun n : Int => [Value.int .u16 n]) a7 ++ (SlV.enc (α := Int)) a8 ++ (SlV.enc (α := Int)) a9 ++ (fun n : Int => [Value.int .u8 n]) a10
  rw [← e0', ← e1', ← e2', ← e3', ← e4', ← e5', ← e6', ← e7', ← e8', ← e9', ← e10']; rfl
def Pkt.pk (x : Pkt) : Pk := ⟨x.f0, x.f1, x.f2, x.f3, x.f4, x.f5.l, x.f6, x.f7, x.f8.l, x.f9.l, x.f10⟩
theorem Pkt.rg {W : World} {x : Pkt} (g : x.Good W) : x.pk.Rg := by
  obtain ⟨_, h1, h2, h3, h4, h5, _, h7, h8, h9, h10⟩ := g
  exact ⟨h1, h2, h3, h4, fun z hz => h5.all z hz, h7, fun z hz => h8.all z hz, fun z hz => h9.all z hz, h10⟩
theorem Pkt.rs {W : World} {x : Pkt} (g : x.Good W) : Rs W [] x.f5.p (ints .u32 x.pk.cs) ∧ Rs W [] x.f8.p (ints .u8 x.pk.ex) ∧ Rs W [] x.f9.p (ints .u8 x.pk.pl) := by
  obtain ⟨_, h1, h2, h3, h4, h5, _, h7, h8, h9, h10⟩ := g
  refine ⟨?_, ?_, ?_⟩
  · have := h5.rs; rwa [ints_flat] at this
  · have := h8.rs; rwa [ints_flat] at this
  · have := h9.rs; rwa [ints_flat] at this
theorem Pkt.encE {W : World} {x : Pkt} (g : x.Good W) : x.enc = x.pk.enc (.slice x.f5.p x.pk.cs.length x.f5.c) (.slice x.f8.p x.pk.ex.length x.f8.c) (.slice x.f9.p x.pk.pl.length x.f9.c) := by
  obtain ⟨_, h1, h2, h3, h4, h5, _, h7, h8, h9, h10⟩ := g
  have e5 := h5.len; have e8 := h8.len; have e9 := h9.len
  unfold Pkt.enc Pk.enc Pkt.pk
  dsimp only
  rw [e5, e8, e9]
theorem puts (W : World) (a0 a1 : Pkt) (g0 : a0.Good W) (g1 : a1.Good W) : XF Try.prog W 4 #[.agg a0.enc.toArray, .agg a1.enc.toArray] [] (fun v L' => v = .bool true) := by
  rw [Pkt.encE g0, Pkt.encE g1]
  exact xf_RtpPuts a0.pk a1.pk _ _ _ _ _ _ _ _ _ _ _ _ (Pkt.rs g0).1 (Pkt.rs g0).2.1 (Pkt.rs g0).2.2 (Pkt.rs g1).1 (Pkt.rs g1).2.1 (Pkt.rs g1).2.2 (Pkt.rg g0) (Pkt.rg g1)
end Go.Proofs.Ytpcmnbagalhjiaa.X
