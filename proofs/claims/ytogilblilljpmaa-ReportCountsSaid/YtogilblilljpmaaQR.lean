/-
  ReportCounts: whatever went out, what an outlet counts and reports is the document's, and its compound is read as it was told; for every input, no condition.
-/
import Derived.Test.YtogilblilljpmaaQ10
import Derived.Test.YtogilblilljpmaaRows
namespace Go.Proofs.Ytogilblilljpmaa.X
open Go Go.RowKit
set_option linter.unusedVariables false
structure Bq where
  f0 : Int
  f1 : Int
  f2 : Int
  f3 : Int
  f4 : Int
  f5 : Int
  f6 : Int
def Bq.enc (x : Bq) : List Value := [.int .u32 x.f0, .int .u8 x.f1, .int .i32 x.f2, .int .u32 x.f3, .int .u32 x.f4, .int .u32 x.f5, .int .u32 x.f6]
theorem Bq.len (x : Bq) : x.enc.length = 7 := rfl
def Bq.Good (W : World) (x : Bq) : Prop := (InK .u32) x.f0 ∧ (InK .u8) x.f1 ∧ (InK .i32) x.f2 ∧ (InK .u32) x.f3 ∧ (InK .u32) x.f4 ∧ (InK .u32) x.f5 ∧ (InK .u32) x.f6
theorem Bq.op {W : World} : Op' Try.prog W 30 Bq.enc (Bq.Good W) := fun encH fuel cs y h => by
  have hl := op_len (T := 30) (i := 0) h
  obtain ⟨a0, e0, g0⟩ := op_field' (T := 30) (i := 0) op_int h
  obtain ⟨a1, e1, g1⟩ := op_field' (T := 30) (i := 1) op_int h
  obtain ⟨a2, e2, g2⟩ := op_field' (T := 30) (i := 2) op_int h
  obtain ⟨a3, e3, g3⟩ := op_field' (T := 30) (i := 3) op_int h
  obtain ⟨a4, e4, g4⟩ := op_field' (T := 30) (i := 4) op_int h
  obtain ⟨a5, e5, g5⟩ := op_field' (T := 30) (i := 5) op_int h
  obtain ⟨a6, e6, g6⟩ := op_field' (T := 30) (i := 6) op_int h
  refine ⟨⟨a0, a1, a2, a3, a4, a5, a6⟩, ?_, ⟨g0, g1, g2, g3, g4, g5, g6⟩⟩
  obtain ⟨c0, c1, c2, c3, c4, c5, c6, rfl⟩ := list7 hl
  have e0' : [c0] = (fun n : Int => [Value.int .u32 n]) a0 := e0
  have e1' : [c1] = (fun n : Int => [Value.int .u8 n]) a1 := e1
  have e2' : [c2] = (fun n : Int => [Value.int .i32 n]) a2 := e2
  have e3' : [c3] = (fun n : Int => [Value.int .u32 n]) a3 := e3
  have e4' : [c4] = (fun n : Int => [Value.int .u32 n]) a4 := e4
  have e5' : [c5] = (fun n : Int => [Value.int .u32 n]) a5 := e5
  have e6' : [c6] = (fun n : Int => [Value.int .u32 n]) a6 := e6
  show _ = (fun n : Int => [Value.int .u32 n]) a0 ++ (fun n : Int => [Value.int .u8 n]) a1 ++ (fun n : Int => [Value.int .i32 n]) a2 ++ (fun n : Int => [Value.int .u32 n]) a3 ++ (fun n : Int => [Value.int .u32 n]) a4 ++ (fun n : Int => [Value.int .u32 n]) a5 ++ (fun n : Int => [Value.int .u32 n]) a6
  rw [← e0', ← e1', ← e2', ← e3', ← e4', ← e5', ← e6']; rfl
structure Pq where
  f0 : Bool
  f1 : Int
  f2 : Int
  f3 : Int
  f4 : Int
  f5 : (SlV Int)
  f6 : Bool
  f7 : Int
  f8 : (SlV Int)
  f9 : (SlV Int)
  f10 : Int
def Pq.enc (x : Pq) : List Value := [.bool x.f0, .int .u8 x.f1, .int .u16 x.f2, .int .u32 x.f3, .int .u32 x.f4, .slice x.f5.p x.f5.n x.f5.c, .bool x.f6, .int .u16 x.f7, .slice x.f8.p x.f8.n x.f8.c, .slice x.f9.p x.f9.n x.f9.c, .int .u8 x.f10]
theorem Pq.len (x : Pq) : x.enc.length = 11 := rfl
def Pq.Good (W : World) (x : Pq) : Prop := (fun _ => True) x.f0 ∧ (InK .u8) x.f1 ∧ (InK .u16) x.f2 ∧ (InK .u32) x.f3 ∧ (InK .u32) x.f4 ∧ (SlV.Good W (fun n : Int => [Value.int .u32 n]) (InK .u32)) x.f5 ∧ (fun _ => True) x.f6 ∧ (InK .u16) x.f7 ∧ (SlV.Good W (fun n : Int => [Value.int .u8 n]) (InK .u8)) x.f8 ∧ (SlV.Good W (fun n : Int => [Value.int .u8 n]) (InK .u8)) x.f9 ∧ (InK .u8) x.f10
theorem Pq.op {W : World} : Op' Try.prog W 51 Pq.enc (Pq.Good W) := fun encH fuel cs y h => by
  have hl := op_len (T := 51) (i := 0) h
  obtain ⟨a0, e0, g0⟩ := op_field' (T := 51) (i := 0) op_bool h
  obtain ⟨a1, e1, g1⟩ := op_field' (T := 51) (i := 1) op_int h
  obtain ⟨a2, e2, g2⟩ := op_field' (T := 51) (i := 2) op_int h
  obtain ⟨a3, e3, g3⟩ := op_field' (T := 51) (i := 3) op_int h
  obtain ⟨a4, e4, g4⟩ := op_field' (T := 51) (i := 4) op_int h
  obtain ⟨a5, e5, g5⟩ := op_field' (T := 51) (i := 5) (op_slice (T := 48) (e := 24) op_int (fun _ => rfl) (by decide)) h
  obtain ⟨a6, e6, g6⟩ := op_field' (T := 51) (i := 6) op_bool h
  obtain ⟨a7, e7, g7⟩ := op_field' (T := 51) (i := 7) op_int h
  obtain ⟨a8, e8, g8⟩ := op_field' (T := 51) (i := 8) (op_slice (T := 49) (e := 5) op_int (fun _ => rfl) (by decide)) h
  obtain ⟨a9, e9, g9⟩ := op_field' (T := 51) (i := 9) (op_slice (T := 49) (e := 5) op_int (fun _ => rfl) (by decide)) h
  obtain ⟨a10, e10, g10⟩ := op_field' (T := 51) (i := 10) op_int h
  refine ⟨⟨a0, a1, a2, a3, a4, a5, a6, a7, a8, a9, a10⟩, ?_, ⟨g0, g1, g2, g3, g4, g5, g6, g7, g8, g9, g10⟩⟩
  obtain ⟨c0, c1, c2, c3, c4, c5, c6, c7, c8, c9, c10, rfl⟩ := list11 hl
  have e0' : [c0] = (fun b : Bool => [Value.bool b]) a0 := e0
  have e1' : [c1] = (fun n : Int => [Value.int .u8 n]) a1 := e1
  have e2' : [c2] = (fun n : Int => [Value.int .u16 n]) a2 := e2
  have e3' : [c3] = (fun n : Int => [Value.int .u32 n]) a3 := e3
  have e4' : [c4] = (fun n : Int => [Value.int .u32 n]) a4 := e4
  have e5' : [c5] = (SlV.enc (α := Int)) a5 := e5
  have e6' : [c6] = (fun b : Bool => [Value.bool b]) a6 := e6
  have e7' : [c7] = (fun n : Int => [Value.int .u16 n]) a7 := e7
  have e8' : [c8] = (SlV.enc (α := Int)) a8 := e8
  have e9' : [c9] = (SlV.enc (α := Int)) a9 := e9
  have e10' : [c10] = (fun n : Int => [Value.int .u8 n]) a10 := e10
  show _ = (fun b : Bool => [Value.bool b]) a0 ++ (fun n : Int => [Value.int .u8 n]) a1 ++ (fun n : Int => [Value.int .u16 n]) a2 ++ (fun n : Int => [Value.int .u32 n]) a3 ++ (fun n : Int => [Value.int .u32 n]) a4 ++ (SlV.enc (α := Int)) a5 ++ (fun b : Bool => [Value.bool b]) a6 ++ (fun n : Int => [Value.int .u16 n]) a7 ++ (SlV.enc (α := Int)) a8 ++ (SlV.enc (α := Int)) a9 ++ (fun n : Int => [Value.int .u8 n]) a10
  rw [← e0', ← e1', ← e2', ← e3', ← e4', ← e5', ← e6', ← e7', ← e8', ← e9', ← e10']; rfl
structure Sq where
  f0 : Pq
  f1 : Int
def Sq.enc (x : Sq) : List Value := x.f0.enc ++ [.int .u64 x.f1]
theorem Sq.len (x : Sq) : x.enc.length = 12 := rfl
def Sq.Good (W : World) (x : Sq) : Prop := (Pq.Good W) x.f0 ∧ (InK .u64) x.f1
theorem Sq.op {W : World} : Op' Try.prog W 70 Sq.enc (Sq.Good W) := fun encH fuel cs y h => by
  have hl := op_len (T := 70) (i := 0) h
  obtain ⟨a0, e0, g0⟩ := op_field' (T := 70) (i := 0) Pq.op h
  obtain ⟨a1, e1, g1⟩ := op_field' (T := 70) (i := 1) op_int h
  refine ⟨⟨a0, a1⟩, ?_, ⟨g0, g1⟩⟩
  obtain ⟨c0, c1, c2, c3, c4, c5, c6, c7, c8, c9, c10, c11, rfl⟩ := list12 hl
  have e0' : [c0, c1, c2, c3, c4, c5, c6, c7, c8, c9, c10] = Pq.enc a0 := e0
  have e1' : [c11] = (fun n : Int => [Value.int .u64 n]) a1 := e1
  show _ = Pq.enc a0 ++ (fun n : Int => [Value.int .u64 n]) a1
  rw [← e0', ← e1']; rfl
theorem Bq.rg {W : World} {a : Bq} (h : a.Good W) : Bk.Rg ⟨a.f0, a.f1, a.f2, a.f3, a.f4, a.f5, a.f6⟩ := by
  obtain ⟨h0, h1, h2, h3, h4, h5, h6⟩ := h
  exact ⟨h0, h1, h2, h3, h4, h5, h6⟩
def Bq.to (a : Bq) : Bk := ⟨a.f0, a.f1, a.f2, a.f3, a.f4, a.f5, a.f6⟩
theorem Bq.flat (l : List Bq) : (l.map Bq.to).flatMap Bk.enc = l.flatMap Bq.enc := by
  induction l with
  | nil => rfl
  | cons a r ih => rw [List.map_cons, List.flatMap_cons, List.flatMap_cons, ih]; rfl
def Sq.to (a : Sq) : Sd := ⟨⟨a.f0.f0, a.f0.f1, a.f0.f2, a.f0.f3, a.f0.f4, a.f0.f5.l, a.f0.f6, a.f0.f7, a.f0.f8.l, a.f0.f9.l, a.f0.f10⟩, a.f0.f5.p, a.f0.f8.p, a.f0.f9.p, a.f0.f5.c, a.f0.f8.c, a.f0.f9.c, a.f1⟩
theorem Sq.enc_to {W : World} {a : Sq} (h : a.Good W) : a.to.enc = a.enc := by
  obtain ⟨⟨_, _, _, _, _, h5, _, _, h8, h9, _⟩, _⟩ := h
  show a.to.q.enc (.slice a.f0.f5.p a.f0.f5.l.length a.f0.f5.c) (.slice a.f0.f8.p a.f0.f8.l.length a.f0.f8.c) (.slice a.f0.f9.p a.f0.f9.l.length a.f0.f9.c) ++ [.int .u64 a.f1] = _
  rw [h5.len, h8.len, h9.len]; rfl
theorem Sq.flat {W : World} : ∀ (l : List Sq), (∀ x, x ∈ l → x.Good W) → (l.map Sq.to).flatMap Sd.enc = l.flatMap Sq.enc
  | [], _ => rfl
  | a :: r, h => by rw [List.map_cons, List.flatMap_cons, List.flatMap_cons, Sq.flat r (fun x hx => h x (List.mem_cons_of_mem _ hx)), Sq.enc_to (h a (List.mem_cons_self ..))]
theorem Sq.at' {W : World} {a : Sq} (h : a.Good W) : a.to.At W [] := by
  obtain ⟨⟨_, _, _, h3, _, h5, _, _, h8, h9, _⟩, h1⟩ := h
  have r5 := h5.rs
  have r8 := h8.rs
  have r9 := h9.rs
  rw [ints_flat] at r5 r8 r9
  exact ⟨r5, r8, r9, h3, h1, by have := h5.len; have := h5.cap; have := h5.max; show a.f0.f5.l.length ≤ _; omega, by have := h8.len; have := h8.cap; have := h8.max; show a.f0.f8.l.length ≤ _; omega, by have := h9.len; have := h9.cap; have := h9.max; show a.f0.f9.l.length ≤ _; omega⟩
theorem counts (W : World) (a0 : Int) (a1 : SlV Sq) (a2 : ByteArray) (a3 : Int) (a4 : SlV Bq) (g0 : InK .u32 a0) (g1 : a1.Good W Sq.enc (Sq.Good W)) (g2 : a2.size ≤ 9223372036854775807) (g3 : InK .u64 a3) (g4 : a4.Good W Bq.enc (Bq.Good W)) :
    XF Try.prog W 6 #[.int .u32 a0, .slice a1.p a1.n a1.c, .string a2, .int .u64 a3, .slice a4.p a4.n a4.c] [] (fun v L' => v = .bool true) := by
  have h1 : (a1.l.map Sq.to).length = a1.n := by rw [List.length_map]; exact g1.len
  have h4 : (a4.l.map Bq.to).length = a4.n := by rw [List.length_map]; exact g4.len
  have r1 := g1.rs
  have r4 := g4.rs
  rw [← Sq.flat _ g1.all] at r1
  rw [← Bq.flat] at r4
  have e1 : ∀ x, x ∈ a1.l.map Sq.to → x.At W [] := fun x hx => by
    obtain ⟨y, hy, rfl⟩ := List.mem_map.1 hx
    exact Sq.at' (g1.all y hy)
  have e4 : ∀ x, x ∈ a4.l.map Bq.to → x.Rg := fun x hx => by
    obtain ⟨y, hy, rfl⟩ := List.mem_map.1 hx
    exact Bq.rg (g4.all y hy)
  have n1 := Nat.le_trans g1.cap g1.max
  have n4 := Nat.le_trans g4.cap g4.max
  by_cases hf : (∀ x, x ∈ a1.l.map Sq.to → x.few) ∧ a1.n ≤ 40 ∧ a4.n ≤ 40
  · exact counts1 a0 g0 a1.p a1.n a1.c _ h1 r1 e1 n1 a2 g2 a3 g3 a4.p a4.n a4.c _ h4 r4 e4 n4 hf
  · exact counts0 a0 g0 a1.p a1.n a1.c _ h1 r1 e1 n1 a2 g2 a3 g3 a4.p a4.n a4.c _ h4 r4 e4 n4 hf
end Go.Proofs.Ytogilblilljpmaa.X
namespace Go.Proofs.Ytogilblilljpmaa.reportCounts
open Go.ChangeShapes Go.WideShapes Go.ChangeAt Go.RowKit Go.Proofs.Ytogilblilljpmaa.X
set_option linter.unusedVariables false
theorem own : ownKnob Try.prog.godebug = none := by kernel_rfl
theorem laidOut : laidOutB Try.prog = true := by kernel_rfl
set_option maxRecDepth 100000 in
theorem lifted (os : Os) (started : os.Started) (H : Type) (enc : TypeId × Value → H) :
    ReturnsInHanded {} Try.checked os 6 .any (Rows.reportCountsSpec.pre6 enc Try.prog Try.f6 Rows.reportCountsRow.domain false) (Rows.reportCountsSpec.post enc Try.prog Try.f6 false true false false) := by
  refine returnsInHanded_of_change (C := Try.checked) own started (by kernel_rfl) Try.func6
    (ChangeSpec.witness6 (enc := enc) (C := Try.checked) false ⟨#[], #[(.int .u32 0), (.slice none 0 0), (.string ⟨#[]⟩), (.int .u64 0), (.slice none 0 0)], []⟩ 8 (by kernel_rfl) (by kernel_rfl) (by kernel_rfl) (by kernel_rfl)) ?_
  intro W base args ds gs before hval0 hW hcnd _
  have hval : ∀ (j : Nat) t v, Try.f6.params[j]? = some t → args[j]? = some v → Value.okWide Try.prog W .any base t v := hval0
  have hW' := hW
  obtain ⟨p, q, hA0, hV, rfl, hfz, hnd⟩ := hW
  have hA : DataW.TrodAll enc Try.prog W 0 (fun _ => true) true Try.f6.params.toList args.toList ds p := hA0
  rw [Try.params6] at hA hval
  obtain ⟨v0, vs0, d0, ds0, p0, q0, hargs, rfl, rfl, h0, r0⟩ := trodAll_cons hA
  obtain ⟨v1, vs1, d1, ds1, p1, q1, rfl, rfl, rfl, h1, r1⟩ := trodAll_cons r0
  obtain ⟨v2, vs2, d2, ds2, p2, q2, rfl, rfl, rfl, h2, r2⟩ := trodAll_cons r1
  obtain ⟨v3, vs3, d3, ds3, p3, q3, rfl, rfl, rfl, h3, r3⟩ := trodAll_cons r2
  obtain ⟨v4, vs4, d4, ds4, p4, q4, rfl, rfl, rfl, h4, r4⟩ := trodAll_cons r3
  obtain ⟨rfl, rfl, rfl⟩ := trodAll_nil r4
  obtain rfl : args = #[v0, v1, v2, v3, v4] := by cases args; simp_all
  obtain ⟨rfl, rfl⟩ := trodVars_none hV
  have k0 := h0
  have lt0 : ∀ x ∈ p0, x.block < W.heap.size := by obtain ⟨m, hm⟩ := k0; exact DataW.trod_lt m _ _ _ hm
  obtain ⟨y0_0, rfl⟩ := okWide_int Try.underlying24 (hval 0 24 v0 rfl rfl)
  obtain ⟨x0, e0, g0⟩ := top_one op_int h0 rfl
  simp only [List.cons.injEq, Value.int.injEq, and_true, true_and] at e0
  subst e0
  have k1 := h1
  have lt1 : ∀ x ∈ p1, x.block < W.heap.size := by obtain ⟨m, hm⟩ := k1; exact DataW.trod_lt m _ _ _ hm
  obtain ⟨y1_0, y1_1, y1_2, rfl⟩ := okWide_slice Try.underlying64 (hval 1 64 v1 rfl rfl)
  obtain ⟨x1, e1, g1⟩ := top_one (op_slice (T := 64) (e := 70) Sq.op Sq.len (by decide)) h1 rfl
  obtain ⟨xp1, xn1, xc1, xl1⟩ := x1
  simp only [SlV.enc, List.cons.injEq, Value.slice.injEq, and_true] at e1
  obtain ⟨rfl, rfl, rfl⟩ := e1
  have k2 := h2
  have lt2 : ∀ x ∈ p2, x.block < W.heap.size := by obtain ⟨m, hm⟩ := k2; exact DataW.trod_lt m _ _ _ hm
  obtain ⟨y2_0, rfl⟩ := okWide_string Try.underlying9 (hval 2 9 v2 rfl rfl)
  obtain ⟨x2, e2, g2⟩ := top_one op_string h2 rfl
  simp only [List.cons.injEq, Value.string.injEq, and_true, true_and] at e2
  subst e2
  have k3 := h3
  have lt3 : ∀ x ∈ p3, x.block < W.heap.size := by obtain ⟨m, hm⟩ := k3; exact DataW.trod_lt m _ _ _ hm
  obtain ⟨y3_0, rfl⟩ := okWide_int Try.underlying22 (hval 3 22 v3 rfl rfl)
  obtain ⟨x3, e3, g3⟩ := top_one op_int h3 rfl
  simp only [List.cons.injEq, Value.int.injEq, and_true, true_and] at e3
  subst e3
  have k4 := h4
  have lt4 : ∀ x ∈ p4, x.block < W.heap.size := by obtain ⟨m, hm⟩ := k4; exact DataW.trod_lt m _ _ _ hm
  obtain ⟨y4_0, y4_1, y4_2, rfl⟩ := okWide_slice Try.underlying38 (hval 4 38 v4 rfl rfl)
  obtain ⟨x4, e4, g4⟩ := top_one (op_slice (T := 38) (e := 30) Bq.op Bq.len (by decide)) h4 rfl
  obtain ⟨xp4, xn4, xc4, xl4⟩ := x4
  simp only [SlV.enc, List.cons.injEq, Value.slice.injEq, and_true] at e4
  obtain ⟨rfl, rfl, rfl⟩ := e4
  clear hA0 hval0
  refine ((X.counts W _ ⟨_, _, _, xl1⟩ _ _ ⟨_, _, _, xl4⟩ g0 g1 g2 g3 g4).run W (Hp.start W)).mono fun e W' ⟨v, he, L', hL, hv⟩ => ?_
  subst he
  subst hv
  have bel := hL.below
  exact ⟨_, rfl, _, _, _, [], _, [], hW', trodAll_mk1 (shut_bool Try.underlying4 _), (trodAll_cons_mk (Below.trod laidOut (by kernel_rfl) (of_decide_eq_true (by kernel_rfl)) k0 bel lt0) (trodAll_cons_mk (Below.trod laidOut (by kernel_rfl) (of_decide_eq_true (by kernel_rfl)) k1 bel lt1) (trodAll_cons_mk (Below.trod laidOut (by kernel_rfl) (of_decide_eq_true (by kernel_rfl)) k2 bel lt2) (trodAll_cons_mk (Below.trod laidOut (by kernel_rfl) (of_decide_eq_true (by kernel_rfl)) k3 bel lt3) (trodAll_cons_mk (Below.trod laidOut (by kernel_rfl) (of_decide_eq_true (by kernel_rfl)) k4 bel lt4) trodAll_mk0))))), rfl, bel.frame _, fun h => by cases h⟩
theorem over : Rows.reportCountsRow.holds Try.pinned (OpenSpec.ofChange Rows.reportCountsSpec) :=
  OpenClaim.holds_of_wide 6 Try.f6 rfl rfl rfl rfl rfl rfl rfl ⟨rfl, rfl, rfl, rfl, rfl⟩ rfl rfl rfl rfl rfl (by kernel_rfl) Try.func6 (by kernel_rfl)
    (of_decide_eq_true (by kernel_rfl)) (by unfold Func.isWrapper; first | (rw [if_pos (by decide +kernel)]; kernel_rfl) | (rw [if_neg (by decide +kernel)]; exact ⟨rfl, rfl⟩))
    (fun os started H enc _ => lifted os started H enc)
theorem proved : Rows.ReportCountsSaid := over
#print axioms proved
end Go.Proofs.Ytogilblilljpmaa.reportCounts
namespace Go.Proofs.Ytogilblilljpmaa
/-- The row, under a short name, for the claim. -/
theorem reportCounts_holds : Rows.ReportCountsSaid := reportCounts.proved
end Go.Proofs.Ytogilblilljpmaa
