/-
  The arguments of the rows: rows of packets.
-/
import Derived.Test.YtohlaabclifbfaaC1
import Derived.Test.YtohlaabclifbfaaX7
namespace Go.Proofs.Ytohlaabclifbfaa.X
open Go Go.RowKit
set_option linter.unusedVariables false
set_option linter.unusedSimpArgs false
structure Pkc where
  f0 : Int
  f1 : Int
  f2 : (SlV Int)
  f3 : Int
def Pkc.enc (x : Pkc) : List Value := [.int .u8 x.f0, .int .u8 x.f1, .slice x.f2.p x.f2.n x.f2.c, .int .u8 x.f3]
theorem Pkc.len (x : Pkc) : x.enc.length = 4 := rfl
def Pkc.Good (W : World) (x : Pkc) : Prop := (InK .u8) x.f0 ∧ (InK .u8) x.f1 ∧ (SlV.Good W (fun n : Int => [Value.int .u8 n]) (InK .u8)) x.f2 ∧ (InK .u8) x.f3
theorem Pkc.op {W : World} : Op' Try.prog W 35 Pkc.enc (Pkc.Good W) := fun encH fuel cs y h => by
  have hl := op_len (T := 35) (i := 0) h
  obtain ⟨a0, e0, g0⟩ := op_field' (T := 35) (i := 0) op_int h
  obtain ⟨a1, e1, g1⟩ := op_field' (T := 35) (i := 1) op_int h
  obtain ⟨a2, e2, g2⟩ := op_field' (T := 35) (i := 2) (op_slice (T := 22) (e := 5) op_int (fun _ => rfl) (by decide)) h
  obtain ⟨a3, e3, g3⟩ := op_field' (T := 35) (i := 3) op_int h
  refine ⟨⟨a0, a1, a2, a3⟩, ?_, ⟨g0, g1, g2, g3⟩⟩
  obtain ⟨c0, c1, c2, c3, rfl⟩ := list4 hl
  have e0' : [c0] = (fun n : Int => [Value.int .u8 n]) a0 := e0
  have e1' : [c1] = (fun n : Int => [Value.int .u8 n]) a1 := e1
  have e2' : [c2] = (SlV.enc (α := Int)) a2 := e2
  have e3' : [c3] = (fun n : Int => [Value.int .u8 n]) a3 := e3
  show _ = (fun n : Int => [Value.int .u8 n]) a0 ++ (fun n : Int => [Value.int .u8 n]) a1 ++ (SlV.enc (α := Int)) a2 ++ (fun n : Int => [Value.int .u8 n]) a3
  rw [← e0', ← e1', ← e2', ← e3']; rfl
def Pkc.pb (x : Pkc) : Pb := ⟨⟨x.f0, x.f1, x.f2.l, x.f3⟩, x.f2.p, x.f2.c, []⟩
theorem Pkc.pbE {W : World} {x : Pkc} (g : x.Good W) : x.pb.enc = x.enc := by
  obtain ⟨_, _, h2, _⟩ := g
  have e2 := h2.len
  unfold Pkc.enc Pkc.pb Pb.enc Pc.enc
  dsimp only
  rw [e2]
theorem Pkc.rg {W : World} {x : Pkc} (g : x.Good W) : x.pb.q.Rg := by
  obtain ⟨h0, h1, h2, h3⟩ := g
  exact ⟨h0, h1, fun z hz => h2.all z hz, h3⟩
theorem Pkc.rs {W : World} {x : Pkc} (g : x.Good W) : Rs W [] x.pb.p (ints .u8 x.pb.q.bd) := by
  obtain ⟨h0, h1, h2, h3⟩ := g
  have := h2.rs
  rwa [ints_flat] at this
theorem Pkc.le {W : World} {x : Pkc} (g : x.Good W) : x.pb.q.bd.length ≤ 9223372036854775807 := by
  obtain ⟨h0, h1, h2, h3⟩ := g
  show x.f2.l.length ≤ _
  rw [h2.len]; exact Nat.le_trans h2.cap h2.max
theorem Pkc.flat {W : World} : ∀ (l : List Pkc), (∀ x, x ∈ l → x.Good W) → (l.map Pkc.pb).flatMap Pb.enc = l.flatMap Pkc.enc
  | [], _ => rfl
  | a :: r, h => by
    rw [List.map_cons, List.flatMap_cons, List.flatMap_cons, Pkc.flat r fun x hx => h x (List.mem_cons_of_mem _ hx), Pkc.pbE (h a (List.mem_cons_self ..))]
structure Pkc.Rows (W : World) (a : SlV Pkc) : Prop where
  len : (a.l.map Pkc.pb).length = a.n
  rs : Rs W [] a.p ((a.l.map Pkc.pb).flatMap Pb.enc)
  bd : ∀ x, x ∈ a.l.map Pkc.pb → Rs W [] x.p (ints .u8 x.q.bd)
  rg : ∀ x, x ∈ a.l.map Pkc.pb → x.q.Rg
  le : ∀ x, x ∈ a.l.map Pkc.pb → x.q.bd.length ≤ 9223372036854775807
  max : a.n ≤ 9223372036854775807
theorem Pkc.rows {W : World} {a : SlV Pkc} (g : a.Good W Pkc.enc (Pkc.Good W)) : Pkc.Rows W a := by
  have hm : ∀ x, x ∈ a.l.map Pkc.pb → ∃ y, y ∈ a.l ∧ x = y.pb := fun x hx => by
    obtain ⟨y, hy, rfl⟩ := List.mem_map.1 hx
    exact ⟨y, hy, rfl⟩
  refine ⟨by rw [List.length_map]; exact g.len, by rw [Pkc.flat a.l g.all]; exact g.rs, fun x hx => ?_, fun x hx => ?_, fun x hx => ?_, Nat.le_trans g.cap g.max⟩
  · obtain ⟨y, hy, rfl⟩ := hm x hx; exact Pkc.rs (g.all y hy)
  · obtain ⟨y, hy, rfl⟩ := hm x hx; exact Pkc.rg (g.all y hy)
  · obtain ⟨y, hy, rfl⟩ := hm x hx; exact Pkc.le (g.all y hy)
theorem joins (W : World) (a0 : SlV Pkc) (g0 : a0.Good W Pkc.enc (Pkc.Good W)) : XF Try.prog W 5 #[.slice a0.p a0.n a0.c] [] (fun v L' => v = .bool true) := by
  have h := Pkc.rows g0
  exact xf_RtcpJoins a0.p a0.n a0.c (a0.l.map Pkc.pb) h.len h.rs h.bd h.rg h.le h.max
end Go.Proofs.Ytohlaabclifbfaa.X
