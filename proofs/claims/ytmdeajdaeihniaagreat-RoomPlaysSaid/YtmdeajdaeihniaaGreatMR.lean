/-
  RoomPlays: whatever is called, a room answers and stands as the reference's does; for every input, no condition.
-/
import Derived.Test.YtmdeajdaeihniaaGreatM14
import Derived.Test.YtmdeajdaeihniaaGreatM7
import Derived.Test.YtmdeajdaeihniaaGreatRows
namespace Go.Proofs.YtmdeajdaeihniaaGreat.X
open Go Go.RowKit
set_option linter.unusedVariables false
structure Cq where
  f0 : Int
  f1 : Int
  f2 : Int
def Cq.enc (x : Cq) : List Value := [.int .i64 x.f0, .int .i64 x.f1, .int .u64 x.f2]
theorem Cq.len (x : Cq) : x.enc.length = 3 := rfl
def Cq.Good (W : World) (x : Cq) : Prop := (InK .i64) x.f0 ∧ (InK .i64) x.f1 ∧ (InK .u64) x.f2
theorem Cq.op {W : World} : Op' Tryz.prog W 24 Cq.enc (Cq.Good W) := fun encH fuel cs y h => by
  have hl := op_len (T := 24) (i := 0) h
  obtain ⟨a0, e0, g0⟩ := op_field' (T := 24) (i := 0) op_int h
  obtain ⟨a1, e1, g1⟩ := op_field' (T := 24) (i := 1) op_int h
  obtain ⟨a2, e2, g2⟩ := op_field' (T := 24) (i := 2) op_int h
  refine ⟨⟨a0, a1, a2⟩, ?_, ⟨g0, g1, g2⟩⟩
  obtain ⟨c0, c1, c2, rfl⟩ := list3 hl
  have e0' : [c0] = (fun n : Int => [Value.int .i64 n]) a0 := e0
  have e1' : [c1] = (fun n : Int => [Value.int .i64 n]) a1 := e1
  have e2' : [c2] = (fun n : Int => [Value.int .u64 n]) a2 := e2
  show _ = (fun n : Int => [Value.int .i64 n]) a0 ++ (fun n : Int => [Value.int .i64 n]) a1 ++ (fun n : Int => [Value.int .u64 n]) a2
  rw [← e0', ← e1', ← e2']; rfl
structure Mq where
  f0 : Int
  f1 : Int
  f2 : Int
  f3 : Bool
def Mq.enc (x : Mq) : List Value := [.int .i64 x.f0, .int .u32 x.f1, .int .u32 x.f2, .bool x.f3]
theorem Mq.len (x : Mq) : x.enc.length = 4 := rfl
def Mq.Good (W : World) (x : Mq) : Prop := (InK .i64) x.f0 ∧ (InK .u32) x.f1 ∧ (InK .u32) x.f2 ∧ (fun _ => True) x.f3
theorem Mq.op {W : World} : Op' Tryz.prog W 49 Mq.enc (Mq.Good W) := fun encH fuel cs y h => by
  have hl := op_len (T := 49) (i := 0) h
  obtain ⟨a0, e0, g0⟩ := op_field' (T := 49) (i := 0) op_int h
  obtain ⟨a1, e1, g1⟩ := op_field' (T := 49) (i := 1) op_int h
  obtain ⟨a2, e2, g2⟩ := op_field' (T := 49) (i := 2) op_int h
  obtain ⟨a3, e3, g3⟩ := op_field' (T := 49) (i := 3) op_bool h
  refine ⟨⟨a0, a1, a2, a3⟩, ?_, ⟨g0, g1, g2, g3⟩⟩
  obtain ⟨c0, c1, c2, c3, rfl⟩ := list4 hl
  have e0' : [c0] = (fun n : Int => [Value.int .i64 n]) a0 := e0
  have e1' : [c1] = (fun n : Int => [Value.int .u32 n]) a1 := e1
  have e2' : [c2] = (fun n : Int => [Value.int .u32 n]) a2 := e2
  have e3' : [c3] = (fun b : Bool => [Value.bool b]) a3 := e3
  show _ = (fun n : Int => [Value.int .i64 n]) a0 ++ (fun n : Int => [Value.int .u32 n]) a1 ++ (fun n : Int => [Value.int .u32 n]) a2 ++ (fun b : Bool => [Value.bool b]) a3
  rw [← e0', ← e1', ← e2', ← e3']; rfl
structure Aq where
  f0 : Int
  f1 : Mq
  f2 : Int
  f3 : Int
  f4 : Bool
  f5 : (SlV Int)
  f6 : Int
def Aq.enc (x : Aq) : List Value := [.int .i64 x.f0] ++ x.f1.enc ++ [.int .i64 x.f2, .int .i64 x.f3, .bool x.f4, .slice x.f5.p x.f5.n x.f5.c, .int .u8 x.f6]
theorem Aq.len (x : Aq) : x.enc.length = 10 := rfl
def Aq.Good (W : World) (x : Aq) : Prop := (InK .i64) x.f0 ∧ (Mq.Good W) x.f1 ∧ (InK .i64) x.f2 ∧ (InK .i64) x.f3 ∧ (fun _ => True) x.f4 ∧ (SlV.Good W (fun n : Int => [Value.int .i64 n]) (InK .i64)) x.f5 ∧ (InK .u8) x.f6
theorem Aq.op {W : World} : Op' Tryz.prog W 52 Aq.enc (Aq.Good W) := fun encH fuel cs y h => by
  have hl := op_len (T := 52) (i := 0) h
  obtain ⟨a0, e0, g0⟩ := op_field' (T := 52) (i := 0) op_int h
  obtain ⟨a1, e1, g1⟩ := op_field' (T := 52) (i := 1) Mq.op h
  obtain ⟨a2, e2, g2⟩ := op_field' (T := 52) (i := 2) op_int h
  obtain ⟨a3, e3, g3⟩ := op_field' (T := 52) (i := 3) op_int h
  obtain ⟨a4, e4, g4⟩ := op_field' (T := 52) (i := 4) op_bool h
  obtain ⟨a5, e5, g5⟩ := op_field' (T := 52) (i := 5) (op_slice (T := 50) (e := 3) op_int (fun _ => rfl) (by decide)) h
  obtain ⟨a6, e6, g6⟩ := op_field' (T := 52) (i := 6) op_int h
  refine ⟨⟨a0, a1, a2, a3, a4, a5, a6⟩, ?_, ⟨g0, g1, g2, g3, g4, g5, g6⟩⟩
  obtain ⟨c0, c1, c2, c3, c4, c5, c6, c7, c8, c9, rfl⟩ := list10 hl
  have e0' : [c0] = (fun n : Int => [Value.int .i64 n]) a0 := e0
  have e1' : [c1, c2, c3, c4] = Mq.enc a1 := e1
  have e2' : [c5] = (fun n : Int => [Value.int .i64 n]) a2 := e2
  have e3' : [c6] = (fun n : Int => [Value.int .i64 n]) a3 := e3
  have e4' : [c7] = (fun b : Bool => [Value.bool b]) a4 := e4
  have e5' : [c8] = (SlV.enc (α := Int)) a5 := e5
  have e6' : [c9] = (fun n : Int => [Value.int .u8 n]) a6 := e6
  show _ = (fun n : Int => [Value.int .i64 n]) a0 ++ Mq.enc a1 ++ (fun n : Int => [Value.int .i64 n]) a2 ++ (fun n : Int => [Value.int .i64 n]) a3 ++ (fun b : Bool => [Value.bool b]) a4 ++ (SlV.enc (α := Int)) a5 ++ (fun n : Int => [Value.int .u8 n]) a6
  rw [← e0', ← e1', ← e2', ← e3', ← e4', ← e5', ← e6']; rfl
def Aq.to (a : Aq) : Ac := ⟨a.f0, ⟨a.f1.f0, a.f1.f1, a.f1.f2, a.f1.f3⟩, a.f2, a.f3, a.f4, a.f5.l, a.f5.p, a.f5.c, a.f6⟩
theorem Aq.enc_to {W : World} {a : Aq} (h : a.Good W) : a.to.enc = a.enc := by
  have hl := h.2.2.2.2.2.1.len
  unfold Aq.to Ac.enc Aq.enc Mq.enc
  dsimp only
  rw [hl]; rfl
theorem Aq.rs {W : World} {a : Aq} (h : a.Good W) : Rs W [] a.to.p (ints .i64 a.to.cs) := by
  have := h.2.2.2.2.2.1.rs
  rwa [ints_flat] at this
theorem Aq.flat {W : World} : ∀ (l : List Aq), (∀ x, x ∈ l → x.Good W) → (l.map Aq.to).flatMap Ac.enc = l.flatMap Aq.enc
  | [], _ => rfl
  | a :: r, h => by
    rw [List.map_cons, List.flatMap_cons, List.flatMap_cons, Aq.flat r (fun x hx => h x (List.mem_cons_of_mem _ hx)), Aq.enc_to (h a List.mem_cons_self)]
theorem plays (W : World) (c0 : Cq) (a0 : SlV Aq) (gc : c0.Good W) (g0 : a0.Good W Aq.enc (Aq.Good W)) : XF Tryz.prog W 3 #[.agg c0.enc.toArray, .slice a0.p a0.n a0.c] [] (fun v L' => v = .bool true) :=
  plays1 c0.f0 c0.f1 c0.f2 gc.2.2.1 a0.p a0.n a0.c (a0.l.map Aq.to) (by rw [List.length_map]; exact g0.len) (by rw [Aq.flat a0.l g0.all]; exact g0.rs) fun y hy => by
    obtain ⟨z, hz, rfl⟩ := List.mem_map.1 hy
    have h := g0.all z hz
    exact ⟨Aq.rs h, by show z.f5.l.length ≤ z.f5.c; rw [h.2.2.2.2.2.1.len]; exact h.2.2.2.2.2.1.cap, h.2.2.2.2.2.2.1, h.2.2.2.2.2.2.2⟩
end Go.Proofs.YtmdeajdaeihniaaGreat.X
namespace Go.Proofs.YtmdeajdaeihniaaGreat.roomPlays
open Go.ChangeShapes Go.WideShapes Go.ChangeAt Go.RowKit Go.Proofs.YtmdeajdaeihniaaGreat.X
set_option linter.unusedVariables false
theorem own : ownKnob Tryz.prog.godebug = none := by kernel_rfl
theorem laidOut : laidOutB Tryz.prog = true := by kernel_rfl
set_option maxRecDepth 100000 in
theorem lifted (os : Os) (started : os.Started) (H : Type) (enc : TypeId × Value → H) :
    ReturnsInHanded {} Tryz.checked os 3 .any (Rows.roomPlaysSpec.pre6 enc Tryz.prog Tryz.f3 Rows.roomPlaysRow.domain false) (Rows.roomPlaysSpec.post enc Tryz.prog Tryz.f3 false true false false) := by
  refine returnsInHanded_of_change (C := Tryz.checked) own started (by kernel_rfl) Tryz.func3
    (ChangeSpec.witness6 (enc := enc) (C := Tryz.checked) false ⟨#[], #[(.agg #[(.int .i64 0), (.int .i64 0), (.int .u64 0)]), (.slice none 0 0)], []⟩ 8 (by kernel_rfl) (by kernel_rfl) (by kernel_rfl) (by kernel_rfl)) ?_
  intro W base args ds gs before hval0 hW hcnd _
  have hval : ∀ (j : Nat) t v, Tryz.f3.params[j]? = some t → args[j]? = some v → Value.okWide Tryz.prog W .any base t v := hval0
  have hW' := hW
  obtain ⟨p, q, hA0, hV, rfl, hfz, hnd⟩ := hW
  have hA : DataW.TrodAll enc Tryz.prog W 0 (fun _ => true) true Tryz.f3.params.toList args.toList ds p := hA0
  rw [Tryz.params3] at hA hval
  obtain ⟨v0, vs0, d0, ds0, p0, q0, hargs, rfl, rfl, h0, r0⟩ := trodAll_cons hA
  obtain ⟨v1, vs1, d1, ds1, p1, q1, rfl, rfl, rfl, h1, r1⟩ := trodAll_cons r0
  obtain ⟨rfl, rfl, rfl⟩ := trodAll_nil r1
  obtain rfl : args = #[v0, v1] := by cases args; simp_all
  obtain ⟨rfl, rfl⟩ := trodVars_none hV
  have k0 := h0
  have lt0 : ∀ x ∈ p0, x.block < W.heap.size := by obtain ⟨m, hm⟩ := k0; exact DataW.trod_lt m _ _ _ hm
  obtain ⟨cs0, rfl, _⟩ := okWide_struct Tryz.underlying24 (hval 0 24 v0 rfl rfl)
  obtain ⟨x0, rfl, g0⟩ := top_agg Cq.op h0
  have k1 := h1
  have lt1 : ∀ x ∈ p1, x.block < W.heap.size := by obtain ⟨m, hm⟩ := k1; exact DataW.trod_lt m _ _ _ hm
  obtain ⟨y1_0, y1_1, y1_2, rfl⟩ := okWide_slice Tryz.underlying25 (hval 1 25 v1 rfl rfl)
  obtain ⟨x1, e1, g1⟩ := top_one (op_slice (T := 25) (e := 52) Aq.op Aq.len (by decide)) h1 rfl
  obtain ⟨xp1, xn1, xc1, xl1⟩ := x1
  simp only [SlV.enc, List.cons.injEq, Value.slice.injEq, and_true] at e1
  obtain ⟨rfl, rfl, rfl⟩ := e1
  clear hA0 hval0
  refine ((X.plays W x0 ⟨_, _, _, xl1⟩ g0 g1).run W (Hp.start W)).mono fun e W' ⟨v, he, L', hL, hv⟩ => ?_
  subst he
  subst hv
  have bel := hL.below
  exact ⟨_, rfl, _, _, _, [], _, [], hW', trodAll_mk1 (shut_bool Tryz.underlying4 _), (trodAll_cons_mk (Below.trod laidOut (by kernel_rfl) (of_decide_eq_true (by kernel_rfl)) k0 bel lt0) (trodAll_cons_mk (Below.trod laidOut (by kernel_rfl) (of_decide_eq_true (by kernel_rfl)) k1 bel lt1) trodAll_mk0)), rfl, bel.frame _, fun h => by cases h⟩
theorem over : Rows.roomPlaysRow.holds Tryz.pinned (OpenSpec.ofChange Rows.roomPlaysSpec) :=
  OpenClaim.holds_of_wide 3 Tryz.f3 rfl rfl rfl rfl rfl rfl rfl ⟨rfl, rfl, rfl, rfl, rfl⟩ rfl rfl rfl rfl rfl (by kernel_rfl) Tryz.func3 (by kernel_rfl)
    (of_decide_eq_true (by kernel_rfl)) (by unfold Func.isWrapper; first | (rw [if_pos (by decide +kernel)]; kernel_rfl) | (rw [if_neg (by decide +kernel)]; exact ⟨rfl, rfl⟩))
    (fun os started H enc _ => lifted os started H enc)
theorem proved : Rows.RoomPlaysSaid := over
#print axioms proved
end Go.Proofs.YtmdeajdaeihniaaGreat.roomPlays
namespace Go.Proofs.YtmdeajdaeihniaaGreat
/-- The row, under a short name, for the claim. -/
theorem roomPlays_holds : Rows.RoomPlaysSaid := roomPlays.proved
end Go.Proofs.YtmdeajdaeihniaaGreat
