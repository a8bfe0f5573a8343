/-
  The arguments of the rows: senders, chunks, who goes.
-/
import Derived.Test.YtohlaabclifbfaaF3
import Derived.Test.YtohlaabclifbfaaX7
namespace Go.Proofs.Ytohlaabclifbfaa.X
open Go Go.RowKit
set_option linter.unusedVariables false
set_option linter.unusedSimpArgs false
structure Bkc where
  f0 : Int
  f1 : Int
  f2 : Int
  f3 : Int
  f4 : Int
  f5 : Int
  f6 : Int
def Bkc.enc (x : Bkc) : List Value := [.int .u32 x.f0, .int .u8 x.f1, .int .i32 x.f2, .int .u32 x.f3, .int .u32 x.f4, .int .u32 x.f5, .int .u32 x.f6]
theorem Bkc.len (x : Bkc) : x.enc.length = 7 := rfl
def Bkc.Good (W : World) (x : Bkc) : Prop := (InK .u32) x.f0 ∧ (InK .u8) x.f1 ∧ (InK .i32) x.f2 ∧ (InK .u32) x.f3 ∧ (InK .u32) x.f4 ∧ (InK .u32) x.f5 ∧ (InK .u32) x.f6
theorem Bkc.op {W : World} : Op' Try.prog W 95 Bkc.enc (Bkc.Good W) := fun encH fuel cs y h => by
  have hl := op_len (T := 95) (i := 0) h
  obtain ⟨a0, e0, g0⟩ := op_field' (T := 95) (i := 0) op_int h
  obtain ⟨a1, e1, g1⟩ := op_field' (T := 95) (i := 1) op_int h
  obtain ⟨a2, e2, g2⟩ := op_field' (T := 95) (i := 2) op_int h
  obtain ⟨a3, e3, g3⟩ := op_field' (T := 95) (i := 3) op_int h
  obtain ⟨a4, e4, g4⟩ := op_field' (T := 95) (i := 4) op_int h
  obtain ⟨a5, e5, g5⟩ := op_field' (T := 95) (i := 5) op_int h
  obtain ⟨a6, e6, g6⟩ := op_field' (T := 95) (i := 6) op_int h
  refine ⟨⟨a0, a1, a2, a3, a4, a5, a6⟩, ?_, ⟨g0, g1, g2, g3, g4, g5, g6⟩⟩
  obtain ⟨c0, c1, c2, c3, c4, c5, c6, rfl⟩ := list7 hl
  have e0' : [c0] = (fun n : Int => [Value.int .u32 n]) a0 := e0
  have e1' : [c1] = (fun n : Int => [Value.int .u8 n]) a1 := e1
  have e2' : [c2] = (fun n : Int => [Value.int .i32 n]) a2 := e2
  have e3' : [c3] = (fun n : Int => [Value.int .u32 n]) a3 := e3
  have e4' : [c4] = (fun n : Int => [Value.int .u32 n]) a4 := e4
  have e5' : [c5] = (fun n : Int => [Value.int .u32 n]) a5 := e5
  have e6' : [c6] = (fun n : Int => [Value.int .u32 n]) a6 := e6
  show _ = (fun n : Int => [Value.int .u32 n]) a0 ++ (fun n : Int => [Value.int .u8 n]) a1 ++ (fun n : Int => [Value.int .i32 n]) a2 ++ (fun n : Int => [Value.int .u32 n]) a3 ++ (fun n : Int => [Value.int .u32 n]) a4 ++ (fun n : Int => [Value.int .u32 n]) a5 ++ (fun n : Int => [Value.int .u32 n]) a6
  rw [← e0', ← e1', ← e2', ← e3', ← e4', ← e5', ← e6']; rfl
structure Snc where
  f0 : Int
  f1 : Int
  f2 : Int
  f3 : Int
  f4 : Int
  f5 : (SlV Bkc)
def Snc.enc (x : Snc) : List Value := [.int .u32 x.f0, .int .u64 x.f1, .int .u32 x.f2, .int .u32 x.f3, .int .u32 x.f4, .slice x.f5.p x.f5.n x.f5.c]
theorem Snc.len (x : Snc) : x.enc.length = 6 := rfl
def Snc.Good (W : World) (x : Snc) : Prop := (InK .u32) x.f0 ∧ (InK .u64) x.f1 ∧ (InK .u32) x.f2 ∧ (InK .u32) x.f3 ∧ (InK .u32) x.f4 ∧ (SlV.Good W Bkc.enc (Bkc.Good W)) x.f5
theorem Snc.op {W : World} : Op' Try.prog W 53 Snc.enc (Snc.Good W) := fun encH fuel cs y h => by
  have hl := op_len (T := 53) (i := 0) h
  obtain ⟨a0, e0, g0⟩ := op_field' (T := 53) (i := 0) op_int h
  obtain ⟨a1, e1, g1⟩ := op_field' (T := 53) (i := 1) op_int h
  obtain ⟨a2, e2, g2⟩ := op_field' (T := 53) (i := 2) op_int h
  obtain ⟨a3, e3, g3⟩ := op_field' (T := 53) (i := 3) op_int h
  obtain ⟨a4, e4, g4⟩ := op_field' (T := 53) (i := 4) op_int h
  obtain ⟨a5, e5, g5⟩ := op_field' (T := 53) (i := 5) (op_slice (T := 51) (e := 95) Bkc.op Bkc.len (by decide)) h
  refine ⟨⟨a0, a1, a2, a3, a4, a5⟩, ?_, ⟨g0, g1, g2, g3, g4, g5⟩⟩
  obtain ⟨c0, c1, c2, c3, c4, c5, rfl⟩ := list6 hl
  have e0' : [c0] = (fun n : Int => [Value.int .u32 n]) a0 := e0
  have e1' : [c1] = (fun n : Int => [Value.int .u64 n]) a1 := e1
  have e2' : [c2] = (fun n : Int => [Value.int .u32 n]) a2 := e2
  have e3' : [c3] = (fun n : Int => [Value.int .u32 n]) a3 := e3
  have e4' : [c4] = (fun n : Int => [Value.int .u32 n]) a4 := e4
  have e5' : [c5] = (SlV.enc (α := Bkc)) a5 := e5
  show _ = (fun n : Int => [Value.int .u32 n]) a0 ++ (fun n : Int => [Value.int .u64 n]) a1 ++ (fun n : Int => [Value.int .u32 n]) a2 ++ (fun n : Int => [Value.int .u32 n]) a3 ++ (fun n : Int => [Value.int .u32 n]) a4 ++ (SlV.enc (α := Bkc)) a5
  rw [← e0', ← e1', ← e2', ← e3', ← e4', ← e5']; rfl
structure Ckc where
  f0 : Int
  f1 : ByteArray
def Ckc.enc (x : Ckc) : List Value := [.int .u32 x.f0, .string x.f1]
theorem Ckc.len (x : Ckc) : x.enc.length = 2 := rfl
def Ckc.Good (W : World) (x : Ckc) : Prop := (InK .u32) x.f0 ∧ (fun s => s.size ≤ 9223372036854775807) x.f1
theorem Ckc.op {W : World} : Op' Try.prog W 97 Ckc.enc (Ckc.Good W) := fun encH fuel cs y h => by
  have hl := op_len (T := 97) (i := 0) h
  obtain ⟨a0, e0, g0⟩ := op_field' (T := 97) (i := 0) op_int h
  obtain ⟨a1, e1, g1⟩ := op_field' (T := 97) (i := 1) op_string h
  refine ⟨⟨a0, a1⟩, ?_, ⟨g0, g1⟩⟩
  obtain ⟨c0, c1, rfl⟩ := list2 hl
  have e0' : [c0] = (fun n : Int => [Value.int .u32 n]) a0 := e0
  have e1' : [c1] = (fun s : ByteArray => [Value.string s]) a1 := e1
  show _ = (fun n : Int => [Value.int .u32 n]) a0 ++ (fun s : ByteArray => [Value.string s]) a1
  rw [← e0', ← e1']; rfl
structure Byc where
  f0 : (SlV Int)
  f1 : ByteArray
def Byc.enc (x : Byc) : List Value := [.slice x.f0.p x.f0.n x.f0.c, .string x.f1]
theorem Byc.len (x : Byc) : x.enc.length = 2 := rfl
def Byc.Good (W : World) (x : Byc) : Prop := (SlV.Good W (fun n : Int => [Value.int .u32 n]) (InK .u32)) x.f0 ∧ (fun s => s.size ≤ 9223372036854775807) x.f1
theorem Byc.op {W : World} : Op' Try.prog W 57 Byc.enc (Byc.Good W) := fun encH fuel cs y h => by
  have hl := op_len (T := 57) (i := 0) h
  obtain ⟨a0, e0, g0⟩ := op_field' (T := 57) (i := 0) (op_slice (T := 55) (e := 49) op_int (fun _ => rfl) (by decide)) h
  obtain ⟨a1, e1, g1⟩ := op_field' (T := 57) (i := 1) op_string h
  refine ⟨⟨a0, a1⟩, ?_, ⟨g0, g1⟩⟩
  obtain ⟨c0, c1, rfl⟩ := list2 hl
  have e0' : [c0] = (SlV.enc (α := Int)) a0 := e0
  have e1' : [c1] = (fun s : ByteArray => [Value.string s]) a1 := e1
  show _ = (SlV.enc (α := Int)) a0 ++ (fun s : ByteArray => [Value.string s]) a1
  rw [← e0', ← e1']; rfl
def Bkc.bk (x : Bkc) : Bk := ⟨x.f0, x.f1, x.f2, x.f3, x.f4, x.f5, x.f6⟩
theorem Bkc.bkE (x : Bkc) : x.bk.enc = x.enc := rfl
theorem Bkc.rg {W : World} {x : Bkc} (g : x.Good W) : x.bk.Rg := by
  obtain ⟨h0, h1, h2, h3, h4, h5, h6⟩ := g
  exact ⟨h0, h1, h2, h3, h4, h5, h6⟩
theorem Bkc.flat : ∀ (l : List Bkc), (l.map Bkc.bk).flatMap Bk.enc = l.flatMap Bkc.enc
  | [] => rfl
  | a :: r => by rw [List.map_cons, List.flatMap_cons, List.flatMap_cons, Bkc.flat r]; rfl
def Ckc.ck (x : Ckc) : Ck := ⟨x.f0, x.f1⟩
theorem Ckc.flat : ∀ (l : List Ckc), (l.map Ckc.ck).flatMap Ck.enc = l.flatMap Ckc.enc
  | [] => rfl
  | a :: r => by rw [List.map_cons, List.flatMap_cons, List.flatMap_cons, Ckc.flat r]; rfl
theorem puts (W : World) (a0 : Snc) (a1 : SlV Ckc) (a2 : Byc) (g0 : a0.Good W) (g1 : a1.Good W Ckc.enc (Ckc.Good W)) (g2 : a2.Good W) : XF Try.prog W 6 #[.agg a0.enc.toArray, .slice a1.p a1.n a1.c, .agg a2.enc.toArray] [] (fun v L' => v = .bool true) := by
  obtain ⟨s0, s1, s2, s3, s4, s5⟩ := g0
  obtain ⟨b0, b1⟩ := g2
  have e0 : a0.enc = Sn.enc ⟨a0.f0, a0.f1, a0.f2, a0.f3, a0.f4, a0.f5.l.map Bkc.bk⟩ (.slice a0.f5.p (a0.f5.l.map Bkc.bk).length a0.f5.c) := by
    rw [List.length_map, s5.len]; rfl
  have e2 : a2.enc = By'.enc ⟨a2.f0.l, a2.f1⟩ (.slice a2.f0.p a2.f0.l.length a2.f0.c) := by
    rw [b0.len]; rfl
  rw [e0, e2]
  refine xf_RtcpPuts ⟨a0.f0, a0.f1, a0.f2, a0.f3, a0.f4, a0.f5.l.map Bkc.bk⟩ ⟨s0, s1, s2, s3, s4, fun b hb => ?_⟩ _ _ ?_ ?_ a1.p a1.n a1.c (a1.l.map Ckc.ck) (by rw [List.length_map]; exact g1.len) ?_ (fun x hx => ?_) (Nat.le_trans g1.cap g1.max) ⟨a2.f0.l, a2.f1⟩ _ _ ?_ (fun y hy => b0.all y hy) ?_ b1
  · obtain ⟨y, hy, rfl⟩ := List.mem_map.1 hb
    exact Bkc.rg (s5.all y hy)
  · dsimp only; rw [Bkc.flat]; exact s5.rs
  · dsimp only; rw [List.length_map, s5.len]; exact Nat.le_trans s5.cap s5.max
  · rw [Ckc.flat]; exact g1.rs
  · obtain ⟨y, hy, rfl⟩ := List.mem_map.1 hx
    exact (g1.all y hy).1
  · have := b0.rs; rwa [ints_flat] at this
  · dsimp only; rw [b0.len]; exact Nat.le_trans b0.cap b0.max
end Go.Proofs.Ytohlaabclifbfaa.X
