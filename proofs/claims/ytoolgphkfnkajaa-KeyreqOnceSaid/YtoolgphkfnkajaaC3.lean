/-
  Chapter 23: two requesters side by side: walks of my own, told of both.
-/
import Derived.Test.YtoolgphkfnkajaaC2
namespace Go.Proofs.Ytoolgphkfnkajaa.X
open Go Go.RowKit
set_option linter.unusedVariables false
set_option linter.unusedSimpArgs false
/-- Two requesters. -/
def rq2 (w : Int) (r mb : Nat) (mo : Obj) (ra mba : Nat) (moa : Obj) (R : List Blk) : List Blk := rqB w r mb mo (rqB w ra mba moa R)
theorem rq2_first (w : Int) (r mb : Nat) (mo : Obj) (ra mba : Nat) (moa : Obj) (R K : List Blk) : (K ++ rq2 w r mb mo ra mba moa R).Perm (rqB w r mb mo (K ++ rqB w ra mba moa R)) := rqB_front w r mb mo K _
theorem rq2_second (w : Int) (r mb : Nat) (mo : Obj) (ra mba : Nat) (moa : Obj) (R K : List Blk) : (K ++ rq2 w r mb mo ra mba moa R).Perm (rqB w ra mba moa (K ++ ([(r, .cells #[.int .u64 w, .map (some mb)] 48 (0, 0)), (mb, mo)] ++ R))) := by
  have h : rq2 w r mb mo ra mba moa R = [(r, .cells #[.int .u64 w, .map (some mb)] 48 (0, 0)), (mb, mo)] ++ rqB w ra mba moa R := rfl
  rw [h, ← List.append_assoc, ← List.append_assoc]
  exact rqB_front w ra mba moa _ R
section
variable {W : World} {R : List Blk} (K : List Blk) (w : Int) (r mb : Nat) (mo : Obj) (ra mba : Nat) (moa : Obj)
theorem ask_1 (l l2 : List Sr) (hx : RqOk w mo l) (id now : Int) (h : askL w l id now = l2) (hid : 0 ≤ id ∧ id ≤ 4294967295) (hn : 0 ≤ now ∧ now ≤ 18446744073709551615) (hs : (getS l id).sent < big) (h12 : l2.length ≤ 12) (b : Bool) (hb : mayB w (getS l id) now = b) :
    XF Try.prog W 10 #[.pointer (some ⟨r, 0, none⟩), .int .u32 id, .int .u64 now] (K ++ rq2 w r mb mo ra mba moa R) (fun v L' => v = .bool b ∧ ∃ mo', RqOk w mo' l2 ∧ L' = K ++ rq2 w r mb mo' ra mba moa R) :=
  ((xf_AskK w r mb mo l l2 hx id now h hid hn hs h12 b hb).perm (rq2_first w r mb mo ra mba moa R K)).mapK fun v L' ⟨hv, mo', hok, hL⟩ => ⟨_, hL ▸ (rq2_first w r mb mo' ra mba moa R K).symm, hv, mo', hok, rfl⟩
theorem ask_2 (l l2 : List Sr) (hx : RqOk w moa l) (id now : Int) (h : askL w l id now = l2) (hid : 0 ≤ id ∧ id ≤ 4294967295) (hn : 0 ≤ now ∧ now ≤ 18446744073709551615) (hs : (getS l id).sent < big) (h12 : l2.length ≤ 12) (b : Bool) (hb : mayB w (getS l id) now = b) :
    XF Try.prog W 10 #[.pointer (some ⟨ra, 0, none⟩), .int .u32 id, .int .u64 now] (K ++ rq2 w r mb mo ra mba moa R) (fun v L' => v = .bool b ∧ ∃ moa', RqOk w moa' l2 ∧ L' = K ++ rq2 w r mb mo ra mba moa' R) :=
  ((xf_AskK w ra mba moa l l2 hx id now h hid hn hs h12 b hb).perm (rq2_second w r mb mo ra mba moa R K)).mapK fun v L' ⟨hv, mo', hok, hL⟩ => ⟨_, hL ▸ (rq2_second w r mb mo ra mba mo' R K).symm, hv, mo', hok, rfl⟩
theorem tick_1 (l l2 : List Sr) (hx : RqOk w mo l) (now : Int) (ds : List Int) (h : tickL w l now = l2) (hd : tickO w l now = ds) (hn : 0 ≤ now ∧ now ≤ 18446744073709551615) (hs : ∀ s, s ∈ l → s.sent < big) :
    XF Try.prog W 8 #[.pointer (some ⟨r, 0, none⟩), .int .u64 now] (K ++ rq2 w r mb mo ra mba moa R) (fun v L' => ∃ p k lo mo', v = .slice p ds.length k ∧ SlQ 1 30 (.slice p ds.length k) ds.length (ints .u32 ds) lo ∧ RqOk w mo' l2 ∧ L' = lo ++ (K ++ rq2 w r mb mo' ra mba moa R)) :=
  ((xf_TickK w r mb mo l l2 hx now ds h hd hn hs).perm (rq2_first w r mb mo ra mba moa R K)).mapK fun v L' ⟨p, k, lo, mo', hv, hO, hok, hL⟩ => ⟨_, hL ▸ ((rq2_first w r mb mo' ra mba moa R K).symm.append_left lo), p, k, lo, mo', hv, hO, hok, rfl⟩
theorem tick_2 (K1 : List Blk) (l l2 : List Sr) (hx : RqOk w moa l) (now : Int) (ds : List Int) (h : tickL w l now = l2) (hd : tickO w l now = ds) (hn : 0 ≤ now ∧ now ≤ 18446744073709551615) (hs : ∀ s, s ∈ l → s.sent < big) :
    XF Try.prog W 8 #[.pointer (some ⟨ra, 0, none⟩), .int .u64 now] (K1 ++ (K ++ rq2 w r mb mo ra mba moa R)) (fun v L' => ∃ p k lo moa', v = .slice p ds.length k ∧ SlQ 1 30 (.slice p ds.length k) ds.length (ints .u32 ds) lo ∧ RqOk w moa' l2 ∧ L' = lo ++ (K1 ++ (K ++ rq2 w r mb mo ra mba moa' R))) := by
  have h1 := fun moa => rq2_second w r mb mo ra mba moa R (K1 ++ K)
  simp only [List.append_assoc] at h1
  exact ((xf_TickK w ra mba moa l l2 hx now ds h hd hn hs).perm (h1 moa)).mapK fun v L' ⟨p, k, lo, mo', hv, hO, hok, hL⟩ => ⟨_, hL ▸ ((h1 mo').symm.append_left lo), p, k, lo, mo', hv, hO, hok, rfl⟩
theorem ans_1 (l l2 : List Sr) (hx : RqOk w mo l) (q : Nat) (x : Int) (h : ansA [x] l = l2) (hq : (q, Obj.cells (ints .u32 [x]).toArray 30 (0, 0)) ∈ K) :
    XF Try.prog W 9 #[.pointer (some ⟨r, 0, none⟩), .slice (some ⟨q, 0, none⟩) 1 1] (K ++ rq2 w r mb mo ra mba moa R) (fun v L' => v = .tuple #[] ∧ ∃ mo', RqOk w mo' l2 ∧ L' = K ++ rq2 w r mb mo' ra mba moa R) := by
  subst h
  have hr : ∀ mo', Rs W (rqB w r mb mo' (K ++ rqB w ra mba moa R)) (some ⟨q, 0, none⟩) (ints .u32 [x]) := fun mo' => Rs.fresh (vs := ints .u32 [x]) (T := 30) (fr := (0, 0)) (List.mem_cons_of_mem _ (List.mem_cons_of_mem _ (List.mem_append_left _ hq)))
  exact ((xf_Answered w r mb mo l hx (some ⟨q, 0, none⟩) 1 1 [x] rfl (hr mo) hr (by decide)).perm (rq2_first w r mb mo ra mba moa R K)).mapK fun v L' ⟨hv, mo', hok, hL⟩ => ⟨_, hL ▸ (rq2_first w r mb mo' ra mba moa R K).symm, hv, mo', hok, rfl⟩
theorem ans_2 (l l2 : List Sr) (hx : RqOk w moa l) (q : Nat) (x : Int) (h : ansA [x] l = l2) (hq : (q, Obj.cells (ints .u32 [x]).toArray 30 (0, 0)) ∈ K) :
    XF Try.prog W 9 #[.pointer (some ⟨ra, 0, none⟩), .slice (some ⟨q, 0, none⟩) 1 1] (K ++ rq2 w r mb mo ra mba moa R) (fun v L' => v = .tuple #[] ∧ ∃ moa', RqOk w moa' l2 ∧ L' = K ++ rq2 w r mb mo ra mba moa' R) := by
  subst h
  have hr : ∀ moa', Rs W (rqB w ra mba moa' (K ++ ([(r, .cells #[.int .u64 w, .map (some mb)] 48 (0, 0)), (mb, mo)] ++ R))) (some ⟨q, 0, none⟩) (ints .u32 [x]) := fun moa' => Rs.fresh (vs := ints .u32 [x]) (T := 30) (fr := (0, 0)) (List.mem_cons_of_mem _ (List.mem_cons_of_mem _ (List.mem_append_left _ hq)))
  exact ((xf_Answered w ra mba moa l hx (some ⟨q, 0, none⟩) 1 1 [x] rfl (hr moa) hr (by decide)).perm (rq2_second w r mb mo ra mba moa R K)).mapK fun v L' ⟨hv, mo', hok, hL⟩ => ⟨_, hL ▸ (rq2_second w r mb mo ra mba mo' R K).symm, hv, mo', hok, rfl⟩
theorem sent_1 (l : List Sr) (hx : RqOk w mo l) (id x : Int) (h : (getS l id).sent = x) :
    XF Try.prog W 11 #[.pointer (some ⟨r, 0, none⟩), .int .u32 id] (K ++ rq2 w r mb mo ra mba moa R) (fun v L' => v = .int .u64 x ∧ L' = K ++ rq2 w r mb mo ra mba moa R) := by
  subst h
  exact (xf_Sent w r mb mo l hx id).permK (rq2_first w r mb mo ra mba moa R K)
end
/-- What is told of a tick's sources. -/
theorem tick_told {w now : Int} {lr la : List Sr} {ask wan : List Int} {n0 t : Int} (h : OnI w lr la ask wan n0 t) (m : Bool) (hm : dueS w now (getS lr 0) = m) :
    (m = true → ∃ rest, tickO w lr now = 0 :: rest) ∧ (m = false → tickO w lr now = [] ∨ ∃ x rest, tickO w lr now = x :: rest ∧ x ≠ 0) ∧ (m = true → (tickO w la now).length ≠ 0) ∧ (m = false → tickO w la now = []) := by
  have hp : ∀ {l : List Sr}, (l.map Sr.id).Pairwise (· < ·) → (tickO w l now).Pairwise (· < ·) := fun h => h.sublist (List.filter_sublist.map _)
  have h0 : ∀ d, d ∈ tickO w lr now → 0 ≤ d := fun d hd => by obtain ⟨s, hs, rfl, _⟩ := tickO_mem hd; exact (h.i3 s hs).1
  have ha : ∀ d, d ∈ tickO w la now → d = 0 := fun d hd => by obtain ⟨s, hs, rfl, _⟩ := tickO_mem hd; exact h.i1 s hs
  have t1 := tick0 (w := w) (now := now) h.so
  have t2 := tick0 (w := w) (now := now) h.sa
  rw [h.e0, hm] at t2
  rw [hm] at t1
  have t3 := head0 (hp h.so) h0
  refine ⟨fun e => ?_, fun e => ?_, fun e => ?_, fun e => ?_⟩
  · have := t3.2 (t1.2 e)
    cases hd : tickO w lr now with
    | nil => rw [hd] at this; simp at this
    | cons x r =>
      rw [hd] at this
      have h2 : x = 0 := this.2
      exact ⟨r, by rw [h2]⟩
  · cases hd : tickO w lr now with
    | nil => exact .inl rfl
    | cons x r =>
      refine .inr ⟨x, r, rfl, fun hx => ?_⟩
      have := t1.1 (by rw [hd, hx]; exact List.mem_cons_self)
      rw [e] at this; cases this
  · intro hl
    have := t2.2 e
    rw [List.length_eq_zero_iff.1 hl] at this; cases this
  · cases hd : tickO w la now with
    | nil => rfl
    | cons x r =>
      have hx := ha x (by rw [hd]; exact List.mem_cons_self)
      have := t2.1 (by rw [hd, hx]; exact List.mem_cons_self)
      rw [e] at this; cases this
theorem OnI.alen {w : Int} {lr la : List Sr} {ask wan : List Int} {now t : Int} (h : OnI w lr la ask wan now t) (ht : 0 ≤ t) : (ask.length : Int) ≤ t := by
  rw [← h.sn]
  cases hf : srF lr 0 with
  | none => rw [getS_none hf]; exact ht
  | some s => rw [getS_some hf]; exact h.bd s (srF_id hf).1
/-- A call that comes. -/
structure Ac where
  d : Int
  src : Int
  by' : Int
def Ac.enc (a : Ac) : List Value := [.int .i64 a.d, .int .u32 a.src, .int .u16 a.by']
theorem Ac.len (a : Ac) : a.enc.length = 3 := rfl
end Go.Proofs.Ytoolgphkfnkajaa.X
