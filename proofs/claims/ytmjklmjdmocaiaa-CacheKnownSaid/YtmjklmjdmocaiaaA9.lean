/-
  CacheTells: the walk of the law.
-/
import Derived.Test.YtmjklmjdmocaiaaA8
namespace Go.Proofs.Ytmjklmjdmocaiaa.X
open Go Go.RowKit
set_option linter.unusedVariables false
set_option linter.unusedSimpArgs false
def pk4 (x : Int) : Int := (x.tmod 4 + 4) % 4
theorem pk4_rng (x : Int) : 0 ≤ pk4 x ∧ pk4 x < 4 := by unfold pk4; omega
def Act.puts (a : Act) : Prop := pk4 a.f0 ≠ 3
/-- Number k is the last one ahead of i that puts n. -/
structure LastPut (xs : List Act) (n : Int) (i k : Nat) : Prop where
  lt : k < i
  len : k < xs.length
  puts : xs[k].puts
  num : xs[k].f1 = n
  last : ∀ j, k < j → j < i → (h : j < xs.length) → xs[j].puts → xs[j].f1 ≠ n
theorem LastPut.uniq {xs : List Act} {n : Int} {i k k' : Nat} (h : LastPut xs n i k) (h' : LastPut xs n i k') : k = k' := by
  rcases Nat.lt_trichotomy k k' with hlt | rfl | hlt
  · exact absurd h'.num (h.last k' hlt h'.lt h'.len h'.puts)
  · rfl
  · exact absurd h.num (h'.last k hlt h.lt h.len h.puts)
/-- All packets are those that were put last. -/
def Told (xs : List Act) (i : Nat) (s : Sta) : Prop := ∀ p, p ∈ s.l → ∃ k, ∃ h : LastPut xs p.n i k, (xs[k]'h.len).f2.l = p.bs
theorem pp_erase (l : List Pp) (n : Int) (h : (l.map Pp.n).Nodup) : n ∉ (l.eraseP (fun q => q.n == n)).map Pp.n := by
  induction l with
  | nil => simp
  | cons p r ih =>
    rw [List.map_cons, List.nodup_cons] at h
    rw [List.eraseP_cons]
    by_cases hp : p.n = n
    · subst hp; simpa using h.1
    · have : (p.n == n) = false := by simpa using hp
      rw [this]
      simp only [cond_false, List.map_cons, List.mem_cons, not_or]
      exact ⟨fun e => hp e.symm, ih h.2⟩
theorem Told.put {xs : List Act} {i : Nat} {s : Sta} (h : Told xs i s) (hnod : (s.l.map Pp.n).Nodup) (hi : i < xs.length) (hp : xs[i].puts) : Told xs (i + 1) (s.put xs[i].f1 xs[i].f2.l) := fun p hm => by
  have hm2 : p ∈ s.l.eraseP (fun q => q.n == xs[i].f1) ++ [⟨xs[i].f1, xs[i].f2.l, false, 0⟩] := by
    unfold Sta.put cutTo at hm
    dsimp only at hm
    split at hm
    · exact List.mem_of_mem_tail hm
    · exact hm
  by_cases hn : p.n = xs[i].f1
  · rcases List.mem_append.1 hm2 with h1 | h1
    · exact absurd (List.mem_map.2 ⟨p, h1, hn⟩) (pp_erase s.l _ hnod)
    · rw [List.mem_singleton] at h1
      subst h1
      exact ⟨i, ⟨Nat.lt_succ_self i, hi, hp, rfl, fun j h2 h3 => by omega⟩, rfl⟩
  · rcases List.mem_append.1 hm2 with h1 | h1
    · obtain ⟨k, hk, hb⟩ := h p (List.mem_of_mem_eraseP h1)
      refine ⟨k, ⟨Nat.lt_succ_of_lt hk.lt, hk.len, hk.puts, hk.num, fun j h2 h3 h4 h5 => ?_⟩, hb⟩
      by_cases he : j = i
      · subst he; exact fun e => hn e.symm
      · exact hk.last j h2 (by omega) h4 h5
    · rw [List.mem_singleton] at h1
      subst h1; exact absurd rfl hn
theorem Told.on {xs : List Act} {i : Nat} {s : Sta} (h : Told xs i s) (hp : ∀ h : i < xs.length, ¬ xs[i].puts) : Told xs (i + 1) s := fun p hm => by
  obtain ⟨k, hk, hb⟩ := h p hm
  refine ⟨k, ⟨Nat.lt_succ_of_lt hk.lt, hk.len, hk.puts, hk.num, fun j h2 h3 h4 h5 => ?_⟩, hb⟩
  by_cases he : j = i
  · subst he; exact absurd h5 (hp h4)
  · exact hk.last j h2 (by omega) h4 h5
theorem ask_n (now n : Int) (q : Pp) : (q.ask now n).n = q.n ∧ (q.ask now n).bs = q.bs := by
  unfold Pp.ask; split <;> exact ⟨rfl, rfl⟩
theorem ask_one (s : Sta) (now n : Int) : (s.ask now [n] = (s, [])) ∨ ∃ p, s.has n = some p ∧ p ∈ s.l ∧ p.n = n ∧ s.ask now [n] = (⟨s.size, s.hold, s.l.map (Pp.ask now n)⟩, [p.bs]) := by
  unfold Sta.ask
  rw [List.foldl_cons, List.foldl_nil]
  unfold Sta.ask1
  dsimp only
  cases h : s.has n with
  | none => exact .inl rfl
  | some p =>
    dsimp only
    split
    · refine .inr ⟨p, rfl, ?_, ?_, by rfl⟩
      · exact List.mem_of_find?_eq_some h
      · have := List.find?_some h; simpa using this
    · exact .inl rfl
theorem Told.ask {xs : List Act} {i : Nat} {s : Sta} (h : Told xs i s) (now n : Int) : Told xs i ⟨s.size, s.hold, s.l.map (Pp.ask now n)⟩ := fun p hm => by
  obtain ⟨q, hq, rfl⟩ := List.mem_map.1 hm
  obtain ⟨e1, e2⟩ := ask_n now n q
  rw [e2]
  obtain ⟨k, hk, hb⟩ := h q hq
  exact ⟨k, ⟨hk.lt, hk.len, hk.puts, hk.num.trans e1.symm, fun j h2 h3 h4 h5 => by rw [e1]; exact hk.last j h2 h3 h4 h5⟩, hb⟩
theorem ask_twice (s : Sta) (now now' n : Int) (p : Pp) (hp : s.has n = some p) (hn : p.n = n) (h1 : 0 < s.hold) (h2 : now' ≤ now + s.hold / 2) : (⟨s.size, s.hold, s.l.map (Pp.ask now n)⟩ : Sta).ask now' [n] = (⟨s.size, s.hold, s.l.map (Pp.ask now n)⟩, []) := by
  have hf : (⟨s.size, s.hold, s.l.map (Pp.ask now n)⟩ : Sta).has n = some (p.ask now n) := by
    unfold Sta.has at hp ⊢
    dsimp only
    rw [List.find?_map]
    have : (fun q : Pp => q.n == n) ∘ Pp.ask now n = fun q => q.n == n := by
      funext q
      simp [(ask_n now n q).1]
    rw [this, hp]; rfl
  unfold Sta.ask
  rw [List.foldl_cons, List.foldl_nil]
  unfold Sta.ask1
  dsimp only
  rw [hf]
  dsimp only
  rw [if_neg]
  intro hm
  apply hm
  unfold Pp.ask
  rw [if_pos hn]
  refine ⟨rfl, ?_⟩
  dsimp only
  unfold mx
  omega

structure LpS where
  k : Nat
  last : Int
/-- What the search for the last put has found so far. -/
def LpI (xs : List Act) (n : Int) (i : Nat) (s : LpS) : Prop := s.k ≤ i ∧ ((s.last = -1 ∧ ∀ j, j < s.k → (h : j < xs.length) → xs[j].puts → xs[j].f1 ≠ n) ∨ ∃ l : Nat, s.last = l ∧ LastPut xs n s.k l)
theorem LpI.hit {xs : List Act} {n : Int} {i k : Nat} {last : Int} (h : LpI xs n i ⟨k, last⟩) (hki : k < i) (hk : k < xs.length) (hp : xs[k].puts) (hn : xs[k].f1 = n) : LpI xs n i ⟨k + 1, k⟩ :=
  ⟨hki, .inr ⟨k, rfl, ⟨Nat.lt_succ_self k, hk, hp, hn, fun j h1 h2 => by dsimp only at h2; omega⟩⟩⟩
theorem LpI.miss {xs : List Act} {n : Int} {i k : Nat} {last : Int} (h : LpI xs n i ⟨k, last⟩) (hki : k < i) (hk : k < xs.length) (hp : xs[k].puts → xs[k].f1 ≠ n) : LpI xs n i ⟨k + 1, last⟩ := by
  refine ⟨hki, ?_⟩
  rcases h.2 with ⟨h1, h2⟩ | ⟨l, h1, h2⟩
  · refine .inl ⟨h1, fun j hj hl hpj => ?_⟩
    dsimp only at hj
    by_cases he : j = k
    · subst he; exact hp hpj
    · exact h2 j (show j < k by omega) hl hpj
  · refine .inr ⟨l, h1, ⟨Nat.lt_succ_of_lt h2.lt, h2.len, h2.puts, h2.num, fun j hj hj2 hl hpj => ?_⟩⟩
    dsimp only at hj2
    by_cases he : j = k
    · subst he; exact hp hpj
    · exact h2.last j hj (show j < k by omega) hl hpj
structure TlS where
  i : Nat
  now : Int
  y : Ca
structure TlI (xs : List Act) (hold : Int) (s : TlS) : Prop where
  i : s.i ≤ xs.length
  n0 : 0 ≤ s.now
  n1 : s.now ≤ 18446744073709551615
  fine : s.y.Fine
  hold : s.y.st.hold = hold
  told : Told xs s.i s.y.st
set_option maxHeartbeats 8000000 in
theorem xf_CacheTells {W : World} (a0 a1 : Int) (p : Option Addr) (n c : Nat) (xs : List Act) (hx : xs.length = n) (hr : Rs W [] p (xs.flatMap Act.enc)) (hall : ∀ x, x ∈ xs → x.Good W) (h1 : 0 ≤ a1) (h1' : a1 ≤ 18446744073709551615) (hn : n ≤ 9223372036854775807) :
    XF Try.prog W 3 #[.int .i64 a0, .int .u64 a1, .slice p n c] [] (fun v L' => v = .bool true) := by
  refine xf_enter (args := [_, _, _]) Try.func3 rfl Try.ntmps3 rfl ?_
  by_cases hs : 1 ≤ a0 ∧ a0 ≤ 1024
  · skip
    focus
      refine xc_seq ?_
      refine xc_region ?_
      refine xo_rd (rd_assign rfl) rfl ?_
      refine xo_nil ?_
      refine xq_seq ?_
      refine xc_seq ?_
      refine xc_region ?_
      refine xo_rd (rd_move rfl) rfl ?_
      refine xo_rd (rd_move rfl) rfl ?_
    refine xo_ef rfl (ef_call rfl (XF.mono (xf_new a0 a1 hs ⟨h1, h1'⟩) ?_))
    rintro v L' ⟨x, hxo, rfl, hst, rfl⟩
    focus
      refine xo_rd (rd_move rfl) rfl ?_
      refine xo_rd (rd_extract rfl rfl) rfl ?_
      refine xo_rd (rd_extract rfl rfl) rfl ?_
      refine xo_rd (rd_assign rfl) rfl ?_
      refine xo_rd (rd_assign rfl) rfl ?_
      refine xo_nil ?_
      refine xq_seq ?_
      refine xc_seq ?_
      refine xc_seq ?_
      refine xc_region ?_
      refine xo_rd (rd_move rfl) rfl ?_
      refine xo_rd (rd_neq rfl rfl) rfl ?_
      refine xo_rd (rd_move rfl) rfl ?_
      refine xo_grd rfl rfl (rd_move rfl) rfl ?_
      refine xo_gef rfl rfl rfl (ef_call rfl (XF.mono (xf_few _ _ _ xs _ hx (hr.mono (by intro z hz; cases hz)) hn) ?_))
      rintro v L' ⟨b, hb, rfl, rfl⟩
      refine xo_grd rfl rfl (rd_not rfl) rfl ?_
      refine xo_rd (rd_pickf rfl rfl) rfl ?_
      refine xo_nil ?_
      refine xq_seq ?_
      refine xc_cond rfl (fun hb1 => ?_) (fun hb1 => ?_)
      refine xc_seq ?_
      refine xc_region ?_
      refine xo_ef rfl (ef_call rfl (XF.mono (xf_works) ?_))
      rintro v L' ⟨rfl, rfl⟩
      refine xo_rd (rd_assign rfl) rfl ?_
      refine xo_nil ?_
      refine xq_seq ?_
      refine xc_ret ?_
      refine xq_then_ret ?_
      exact xq_ret1 (.inl rfl) Try.results3 rfl (rfl)
      refine xc_skip ?_
      refine xq_seq ?_
      refine xc_seq ?_
      refine xc_region ?_
      refine xo_rd (rd_assign rfl) rfl ?_
      refine xo_nil ?_
      refine xq_seq ?_
      refine xc_seq ?_
      refine xc_seq ?_
      refine xc_region ?_
      refine xo_rd (rd_assign rfl) rfl ?_
      refine xo_nil ?_
      refine xq_seq ?_
      refine xc_block ?_
    have hf : x.Fine := ⟨hxo, by have h1 : x.ps.length = 0 := (by have := congrArg (fun s => s.l.length) hst; simpa [Ca.st] using this); have := hxo.sz; omega⟩
    have hfew := hb (by simpa using hb1)
    have hn60 : n ≤ 60 := by have := hfew.2; omega
    refine xc_loopI (ι := TlS) (TlI xs a1) (fun s => n - s.i) (fun s => s.y.blks ++ []) (fun s => [(1, .int .u64 a1), (2, .slice p n c), (7, .pointer (some ⟨s.y.c, 0, none⟩)), (9, .int .u64 s.now), (10, .int .i64 s.i)]) ⟨0, 0, x⟩ ⟨Nat.zero_le _, Int.le_refl 0, by dsimp only; omega, hf, by rw [hst], fun q hq => by rw [hst] at hq; cases hq⟩ rfl (by repeat (first | exact keep_nil | refine keep_cons rfl ?_)) ?_
    rintro ⟨i, now, y⟩ ⟨hi, hn0, hn1, hfy, hhy, htold⟩
    dsimp only at hi hn0 hn1 hfy hhy htold ⊢
    focus
      refine xc_seq ?_
      refine xc_seq ?_
      refine xc_region ?_
      refine xo_rd (rd_move rfl) rfl ?_
      refine xo_rd (rd_move rfl) rfl ?_
      refine xo_rd (rd_len rfl) rfl ?_
      refine xo_rd (rd_lss rfl rfl) rfl ?_
      refine xo_nil ?_
      refine xq_seq ?_
      refine xc_dec rfl (fun hi1 => ?_) (fun hi1 => ?_)
      refine xc_skip ?_
      refine xq_seq ?_
      refine xc_seq ?_
      refine xc_block ?_
      refine xc_seq ?_
      refine xc_region ?_
      refine xo_rd (rd_move rfl) rfl ?_
      refine xo_rd (rd_move rfl) rfl ?_
      refine xo_rd (rd_move rfl) rfl ?_
      rotate_left
      refine xc_exit ?_
      refine xq_then_exit ?_
      refine xq_then_exit ?_
      refine xq_block_hit ?_
      refine xq_seq ?_
      refine xc_seq ?_
      refine xc_region ?_
      refine xo_ef rfl (ef_call rfl (XF.mono (xf_works) ?_))
      rintro v L' ⟨rfl, rfl⟩
      refine xo_rd (rd_assign rfl) rfl ?_
      refine xo_nil ?_
      refine xq_seq ?_
      refine xc_ret ?_
      exact xq_ret1 (.inl rfl) Try.results3 rfl (rfl)
    have hin : i < xs.length := by omega
    obtain ⟨b0, o0, hp, hc⟩ := hr.rows Act.len (by decide) (by omega)
    subst hp
    have hg := hall xs[i] (List.getElem_mem _)
    have hfi := hfew.1 xs[i] (List.getElem_mem _)
    obtain ⟨g0, g1, g2, g3, g4⟩ := hg
    rw [inK_u64] at g3
    have hm0 : 0 ≤ mx now xs[i].f3 := Int.le_trans g3.1 (le_mx _ _)
    have hm1 : mx now xs[i].f3 ≤ 18446744073709551615 := mx_le hn1 g3.2
    focus
      refine xo_rd (rd_indexAddr rfl rfl (by omega) (by omega)) rfl ?_
      refine xo_rd (rd_fieldAddr rfl) rfl ?_
      refine xo_rd (rd_load1 rfl (hc i hin 3 _ rfl).nil) rfl ?_
      refine xo_rd ((rd_cast (rd_max rfl rfl) (rfl : (Value.int .u64 (if xs[i].f3 > now then xs[i].f3 else now)) = .int .u64 (mx now xs[i].f3)))) rfl ?_
      refine xo_rd (rd_assign rfl) rfl ?_
      refine xo_nil ?_
      refine xq_seq ?_
      refine xc_seq ?_
      refine xc_seq ?_
      refine xc_region ?_
      refine xo_rd (rd_move rfl) rfl ?_
      refine xo_rd (rd_move rfl) rfl ?_
      refine xo_rd (rd_indexAddr rfl rfl (by omega) (by omega)) rfl ?_
      refine xo_rd (rd_fieldAddr rfl) rfl ?_
      refine xo_rd (rd_load1 rfl (hc i hin 0 _ rfl).nil) rfl ?_
      refine xo_ef rfl (ef_call rfl (XF.mono (xf_pick _ 4 (by decide) (by decide)) ?_))
      rintro v L' ⟨rfl, rfl⟩
      refine xo_rd (rd_neq rfl rfl) rfl ?_
      refine xo_nil ?_
      refine xq_seq ?_
      refine xc_ndec rfl (fun hq1 => ?_) (fun hq1 => ?_)
      refine xc_seq ?_
      refine xc_drawM [0, 0, 0, 6, 8, 16, 0, 0, 192, 256, 512, 1057] [0, 0, 0, 6, 8, 16, 0, 0, 192, 256, 512, 1057] [] (by kernel_rfl) (by kernel_rfl) (by kernel_rfl) ?_
      refine xm_take 0 (m' := 1) rfl (by kernel_rfl) (by first | exact Sb.refl | exact Sb.nil | (repeat (first | exact Sb.nil | exact Sb.refl | exact Sb.app0 | apply Sb.keep | apply Sb.keepApp | apply Sb.cons | apply Sb.app))) (rd_move rfl) rfl (by kernel_rfl) ?_
      refine xm_take 1 (m' := 3) rfl (by kernel_rfl) (by first | exact Sb.refl | exact Sb.nil | (repeat (first | exact Sb.nil | exact Sb.refl | exact Sb.app0 | apply Sb.keep | apply Sb.keepApp | apply Sb.cons | apply Sb.app))) (rd_move rfl) rfl (by kernel_rfl) ?_
      refine xm_take 2 (m' := 7) rfl (by kernel_rfl) (by first | exact Sb.refl | exact Sb.nil | (repeat (first | exact Sb.nil | exact Sb.refl | exact Sb.app0 | apply Sb.keep | apply Sb.keepApp | apply Sb.cons | apply Sb.app))) (rd_move rfl) rfl (by kernel_rfl) ?_
      refine xm_take 3 (m' := 15) rfl (by kernel_rfl) (by first | exact Sb.refl | exact Sb.nil | (repeat (first | exact Sb.nil | exact Sb.refl | exact Sb.app0 | apply Sb.keep | apply Sb.keepApp | apply Sb.cons | apply Sb.app))) (rd_indexAddr rfl rfl (by omega) (by omega)) rfl (by kernel_rfl) ?_
      refine xm_take 4 (m' := 31) rfl (by kernel_rfl) (by first | exact Sb.refl | exact Sb.nil | (repeat (first | exact Sb.nil | exact Sb.refl | exact Sb.app0 | apply Sb.keep | apply Sb.keepApp | apply Sb.cons | apply Sb.app))) (rd_fieldAddr rfl) rfl (by kernel_rfl) ?_
      refine xm_take 5 (m' := 63) rfl (by kernel_rfl) (by first | exact Sb.refl | exact Sb.nil | (repeat (first | exact Sb.nil | exact Sb.refl | exact Sb.app0 | apply Sb.keep | apply Sb.keepApp | apply Sb.cons | apply Sb.app))) (rd_load1 rfl (hc i hin 1 _ rfl).nil) rfl (by kernel_rfl) ?_
      refine xm_take 6 (m' := 127) rfl (by kernel_rfl) (by first | exact Sb.refl | exact Sb.nil | (repeat (first | exact Sb.nil | exact Sb.refl | exact Sb.app0 | apply Sb.keep | apply Sb.keepApp | apply Sb.cons | apply Sb.app))) (rd_move rfl) rfl (by kernel_rfl) ?_
      refine xm_take 7 (m' := 255) rfl (by kernel_rfl) (by first | exact Sb.refl | exact Sb.nil | (repeat (first | exact Sb.nil | exact Sb.refl | exact Sb.app0 | apply Sb.keep | apply Sb.keepApp | apply Sb.cons | apply Sb.app))) (rd_move rfl) rfl (by kernel_rfl) ?_
      refine xm_take 8 (m' := 511) rfl (by kernel_rfl) (by first | exact Sb.refl | exact Sb.nil | (repeat (first | exact Sb.nil | exact Sb.refl | exact Sb.app0 | apply Sb.keep | apply Sb.keepApp | apply Sb.cons | apply Sb.app))) (rd_indexAddr rfl rfl (by omega) (by omega)) rfl (by kernel_rfl) ?_
      refine xm_take 9 (m' := 1023) rfl (by kernel_rfl) (by first | exact Sb.refl | exact Sb.nil | (repeat (first | exact Sb.nil | exact Sb.refl | exact Sb.app0 | apply Sb.keep | apply Sb.keepApp | apply Sb.cons | apply Sb.app))) (rd_fieldAddr rfl) rfl (by kernel_rfl) ?_
      refine xm_take 10 (m' := 2047) rfl (by kernel_rfl) (by first | exact Sb.refl | exact Sb.nil | (repeat (first | exact Sb.nil | exact Sb.refl | exact Sb.app0 | apply Sb.keep | apply Sb.keepApp | apply Sb.cons | apply Sb.app))) (rd_load1 rfl (hc i hin 2 _ rfl).nil) rfl (by kernel_rfl) ?_
      refine xm_one 11 (m' := 4095) rfl (by kernel_rfl) rfl (by kernel_rfl) (ef_call rfl (XF.mono (xf_putr y hfy _ _ _ _ xs[i].f2.l g2.len (by rw [← ints_flat]; exact g2.rs) (by omega)) ?_))
      rintro v L' ⟨rfl, y', hf', hc', hst', rfl⟩
      refine ⟨(by first | exact Sb.refl | exact Sb.nil | (repeat (first | exact Sb.nil | exact Sb.refl | exact Sb.app0 | apply Sb.keep | apply Sb.keepApp | apply Sb.cons | apply Sb.app))), ?_⟩
      refine xm_done (by kernel_rfl) ?_
      refine xq_seq ?_
      refine xc_exit ?_
      refine xq_then_exit ?_
      refine xq_block_hit ?_
      refine xq_seq ?_
      refine xc_region ?_
      refine xo_rd (rd_move rfl) rfl ?_
      refine xo_rd (rd_addn rfl rfl (by omega) (by omega)) rfl ?_
      refine xo_rd (rd_assign rfl) rfl ?_
      refine xo_nil ?_
      rotate_left
      refine xc_skip ?_
      refine xq_seq ?_
      refine xc_seq ?_
      refine xc_region ?_
      refine xo_rd (rd_move rfl) rfl ?_
      refine xo_rd (rd_move rfl) rfl ?_
      refine xo_rd (rd_move rfl) rfl ?_
      refine xo_rd (rd_move rfl) rfl ?_
      refine xo_rd (rd_indexAddr rfl rfl (by omega) (by omega)) rfl ?_
      refine xo_rd (rd_fieldAddr rfl) rfl ?_
      refine xo_rd (rd_load1 rfl (hc i hin 1 _ rfl).nil) rfl ?_
      refine xo_ef rfl (ef_slice1 rfl rfl rfl fun r67 => ?_)
      rotate_left
    · rw [← hc']
      refine xq_roundI (⟨i + 1, mx now xs[i].f3, y'⟩ : TlS) ⟨by dsimp only; omega, hm0, hm1, hf', by rw [hst']; exact hhy, ?_⟩ (by dsimp only; omega) rfl (by repeat (first | exact keep_nil | refine keep_cons rfl ?_))
      rw [hst']
      exact htold.put (by rw [← y.ps_n]; exact hfy.ok.nod) hin hq1
    · refine xo_ef rfl (ef_call rfl (XF.mono (XF.seg [_] y.blks [] (xf_askr y hfy _ hm0 hm1 _ 1 1 [xs[i].f1] rfl (Rs.fresh (List.Mem.head _)) (by decide))) ?_))
      rintro v L' ⟨y1, ws, l1, p1, k1, hy1, hd1, ha1, rfl, hO1, hw1, hn1, rfl⟩
      rw [← hd1]
      have hws : ws.length ≤ 1 := by
        rcases ask_one y.st (mx now xs[i].f3) xs[i].f1 with h | ⟨_, _, _, _, h⟩ <;> rw [h, Prod.mk.injEq] at ha1 <;> rw [← List.length_map (f := Ow.bs), ← ha1.2] <;> simp
      focus
        refine xo_rd (rd_assign rfl) rfl ?_
        refine xo_nil ?_
        refine xq_seq ?_
        refine xc_seq ?_
        refine xc_seq ?_
        refine xc_region ?_
        refine xo_rd (rd_move rfl) rfl ?_
        refine xo_rd (rd_len rfl) rfl ?_
        refine xo_rd (rd_gtr rfl rfl) rfl ?_
        refine xo_nil ?_
        refine xq_seq ?_
        refine xc_dec rfl (fun h1 => (by exfalso; omega)) (fun h1 => ?_)
        refine xc_skip ?_
        refine xq_seq ?_
        refine xc_seq ?_
        refine xc_region ?_
        refine xo_rd (rd_assign rfl) rfl ?_
        refine xo_nil ?_
        refine xq_seq ?_
        refine xc_seq ?_
        refine xc_seq ?_
        refine xc_region ?_
        refine xo_rd (rd_assign rfl) rfl ?_
        refine xo_nil ?_
        refine xq_seq ?_
        refine xc_block ?_
      refine xc_loopI (ι := LpS) (LpI xs xs[i].f1 i) (fun s => i - s.k) (fun s => y1.blks ++ (l1 ++ (ws.flatMap Ow.l ++ [_]))) (fun s => [(1, .int .u64 a1), (2, .slice (some ⟨b0, o0, none⟩) n c), (7, .pointer (some ⟨y1.c, 0, none⟩)), (9, .int .u64 (mx now xs[i].f3)), (10, .int .i64 i), (11, .slice p1 ws.length k1), (12, .int .i64 s.last), (13, .int .i64 s.k)]) ⟨0, -1⟩ ⟨Nat.zero_le _, .inl ⟨rfl, fun j hj => absurd hj (Nat.not_lt_zero j)⟩⟩ rfl (by repeat (first | exact keep_nil | refine keep_cons rfl ?_)) ?_
      rintro ⟨k, last⟩ ⟨hk, hl⟩
      have hLp : LpI xs xs[i].f1 i ⟨k, last⟩ := ⟨hk, hl⟩
      dsimp only at hk hl ⊢
      focus
        refine xc_seq ?_
        refine xc_seq ?_
        refine xc_region ?_
        refine xo_rd (rd_move rfl) rfl ?_
        refine xo_rd (rd_move rfl) rfl ?_
        refine xo_rd (rd_lss rfl rfl) rfl ?_
        refine xo_nil ?_
        refine xq_seq ?_
        refine xc_dec rfl (fun hk1 => ?_) (fun hk1 => ?_)
        refine xc_skip ?_
        refine xq_seq ?_
        refine xc_seq ?_
        refine xc_block ?_
        refine xc_seq ?_
        refine xc_drawML [0, 0, 3, 4, 8, 16, 32, 96, 128, 128, 896, 1152, 2176, 128, 128, 24704, 32896, 65664, 135296, 262272] [0, 0, 3, 4, 8, 16, 32, 96, 128, 128, 896, 1152, 2176, 128, 128, 24704, 32896, 65664, 135296, 262272] (by kernel_rfl) (by kernel_rfl) (by kernel_rfl) ?_
        refine xm_take 0 (m' := 1) rfl (by kernel_rfl) (by first | exact Sb.refl | exact Sb.nil | (repeat (first | exact Sb.nil | exact Sb.refl | exact Sb.app0 | apply Sb.keep | apply Sb.keepApp | apply Sb.cons | apply Sb.app))) (rd_move rfl) rfl (by kernel_rfl) ?_
        refine xm_take 1 (m' := 3) rfl (by kernel_rfl) (by first | exact Sb.refl | exact Sb.nil | (repeat (first | exact Sb.nil | exact Sb.refl | exact Sb.app0 | apply Sb.keep | apply Sb.keepApp | apply Sb.cons | apply Sb.app))) (rd_move rfl) rfl (by kernel_rfl) ?_
        refine xm_take 2 (m' := 7) rfl (by kernel_rfl) (by first | exact Sb.refl | exact Sb.nil | (repeat (first | exact Sb.nil | exact Sb.refl | exact Sb.app0 | apply Sb.keep | apply Sb.keepApp | apply Sb.cons | apply Sb.app))) (rd_indexAddr rfl rfl (by omega) (by omega)) rfl (by kernel_rfl) ?_
        refine xm_take 3 (m' := 15) rfl (by kernel_rfl) (by first | exact Sb.refl | exact Sb.nil | (repeat (first | exact Sb.nil | exact Sb.refl | exact Sb.app0 | apply Sb.keep | apply Sb.keepApp | apply Sb.cons | apply Sb.app))) (rd_fieldAddr rfl) rfl (by kernel_rfl) ?_
        rotate_left
        refine xc_exit ?_
        refine xq_then_exit ?_
        refine xq_then_exit ?_
        rotate_left
      · have hkn : k < xs.length := by omega
        focus
          refine xm_take 4 (m' := 31) rfl (by kernel_rfl) (by first | exact Sb.refl | exact Sb.nil | (repeat (first | exact Sb.nil | exact Sb.refl | exact Sb.app0 | apply Sb.keep | apply Sb.keepApp | apply Sb.cons | apply Sb.app))) (rd_load1 rfl (hc k hkn 0 _ rfl).nil) rfl (by kernel_rfl) ?_
          refine xm_one 5 (m' := 63) rfl (by kernel_rfl) rfl (by kernel_rfl) (ef_call rfl (XF.mono (xf_pick _ 4 (by decide) (by decide)) ?_))
          rintro v L' ⟨rfl, rfl⟩
          refine ⟨(by first | exact Sb.refl | exact Sb.nil | (repeat (first | exact Sb.nil | exact Sb.refl | exact Sb.app0 | apply Sb.keep | apply Sb.keepApp | apply Sb.cons | apply Sb.app))), ?_⟩
          refine xm_take 6 (m' := 127) rfl (by kernel_rfl) (by first | exact Sb.refl | exact Sb.nil | (repeat (first | exact Sb.nil | exact Sb.refl | exact Sb.app0 | apply Sb.keep | apply Sb.keepApp | apply Sb.cons | apply Sb.app))) (rd_neq rfl rfl) rfl (by kernel_rfl) ?_
          refine xm_take 7 (m' := 255) rfl (by kernel_rfl) (by first | exact Sb.refl | exact Sb.nil | (repeat (first | exact Sb.nil | exact Sb.refl | exact Sb.app0 | apply Sb.keep | apply Sb.keepApp | apply Sb.cons | apply Sb.app))) (rd_move rfl) rfl (by kernel_rfl) ?_
          refine xm_ndec 84 rfl (fun hz1 => ?_) (fun hz1 => ?_)
          refine xm_gtake 8 (m' := 511) rfl (by kernel_rfl) (by first | exact Sb.refl | exact Sb.nil | (repeat (first | exact Sb.nil | exact Sb.refl | exact Sb.app0 | apply Sb.keep | apply Sb.keepApp | apply Sb.cons | apply Sb.app))) rfl rfl (rd_move rfl) rfl (by kernel_rfl) ?_
          refine xm_gtake 9 (m' := 1023) rfl (by kernel_rfl) (by first | exact Sb.refl | exact Sb.nil | (repeat (first | exact Sb.nil | exact Sb.refl | exact Sb.app0 | apply Sb.keep | apply Sb.keepApp | apply Sb.cons | apply Sb.app))) rfl rfl (rd_move rfl) rfl (by kernel_rfl) ?_
          refine xm_gtake 10 (m' := 2047) rfl (by kernel_rfl) (by first | exact Sb.refl | exact Sb.nil | (repeat (first | exact Sb.nil | exact Sb.refl | exact Sb.app0 | apply Sb.keep | apply Sb.keepApp | apply Sb.cons | apply Sb.app))) rfl rfl (rd_indexAddr rfl rfl (by omega) (by omega)) rfl (by kernel_rfl) ?_
          refine xm_gtake 11 (m' := 4095) rfl (by kernel_rfl) (by first | exact Sb.refl | exact Sb.nil | (repeat (first | exact Sb.nil | exact Sb.refl | exact Sb.app0 | apply Sb.keep | apply Sb.keepApp | apply Sb.cons | apply Sb.app))) rfl rfl (rd_fieldAddr rfl) rfl (by kernel_rfl) ?_
          refine xm_gtake 12 (m' := 8191) rfl (by kernel_rfl) (by first | exact Sb.refl | exact Sb.nil | (repeat (first | exact Sb.nil | exact Sb.refl | exact Sb.app0 | apply Sb.keep | apply Sb.keepApp | apply Sb.cons | apply Sb.app))) rfl rfl (rd_load1 rfl (hc k hkn 1 _ rfl).nil) rfl (by kernel_rfl) ?_
          refine xm_gtake 13 (m' := 16383) rfl (by kernel_rfl) (by first | exact Sb.refl | exact Sb.nil | (repeat (first | exact Sb.nil | exact Sb.refl | exact Sb.app0 | apply Sb.keep | apply Sb.keepApp | apply Sb.cons | apply Sb.app))) rfl rfl (rd_move rfl) rfl (by kernel_rfl) ?_
          refine xm_gtake 14 (m' := 32767) rfl (by kernel_rfl) (by first | exact Sb.refl | exact Sb.nil | (repeat (first | exact Sb.nil | exact Sb.refl | exact Sb.app0 | apply Sb.keep | apply Sb.keepApp | apply Sb.cons | apply Sb.app))) rfl rfl (rd_move rfl) rfl (by kernel_rfl) ?_
          refine xm_gtake 15 (m' := 65535) rfl (by kernel_rfl) (by first | exact Sb.refl | exact Sb.nil | (repeat (first | exact Sb.nil | exact Sb.refl | exact Sb.app0 | apply Sb.keep | apply Sb.keepApp | apply Sb.cons | apply Sb.app))) rfl rfl (rd_indexAddr rfl rfl (by omega) (by omega)) rfl (by kernel_rfl) ?_
          refine xm_gtake 16 (m' := 131071) rfl (by kernel_rfl) (by first | exact Sb.refl | exact Sb.nil | (repeat (first | exact Sb.nil | exact Sb.refl | exact Sb.app0 | apply Sb.keep | apply Sb.keepApp | apply Sb.cons | apply Sb.app))) rfl rfl (rd_fieldAddr rfl) rfl (by kernel_rfl) ?_
          refine xm_gtake 17 (m' := 262143) rfl (by kernel_rfl) (by first | exact Sb.refl | exact Sb.nil | (repeat (first | exact Sb.nil | exact Sb.refl | exact Sb.app0 | apply Sb.keep | apply Sb.keepApp | apply Sb.cons | apply Sb.app))) rfl rfl (rd_load1 rfl (hc i hin 1 _ rfl).nil) rfl (by kernel_rfl) ?_
          refine xm_gtake 18 (m' := 524287) rfl (by kernel_rfl) (by first | exact Sb.refl | exact Sb.nil | (repeat (first | exact Sb.nil | exact Sb.refl | exact Sb.app0 | apply Sb.keep | apply Sb.keepApp | apply Sb.cons | apply Sb.app))) rfl rfl (rd_eql rfl rfl) rfl (by kernel_rfl) ?_
          refine xm_take 19 (m' := 1048575) rfl (by kernel_rfl) (by first | exact Sb.refl | exact Sb.nil | (repeat (first | exact Sb.nil | exact Sb.refl | exact Sb.app0 | apply Sb.keep | apply Sb.keepApp | apply Sb.cons | apply Sb.app))) (rd_pickt rfl rfl) rfl (by kernel_rfl) ?_
          refine xm_done (by kernel_rfl) ?_
          refine xq_seq ?_
          refine xc_dec rfl (fun hz2 => ?_) (fun hz2 => ?_)
          refine xc_region ?_
          refine xo_rd (rd_move rfl) rfl ?_
          refine xo_rd (rd_assign rfl) rfl ?_
          refine xo_nil ?_
          refine xq_block ?_
          refine xq_seq ?_
          refine xc_region ?_
          refine xo_rd (rd_move rfl) rfl ?_
          refine xo_rd (rd_addn rfl rfl (by omega) (by omega)) rfl ?_
          refine xo_rd (rd_assign rfl) rfl ?_
          refine xo_nil ?_
          rotate_left
          refine xc_skip ?_
          refine xq_block ?_
          refine xq_seq ?_
          refine xc_region ?_
          refine xo_rd (rd_move rfl) rfl ?_
          refine xo_rd (rd_addn rfl rfl (by omega) (by omega)) rfl ?_
          refine xo_rd (rd_assign rfl) rfl ?_
          refine xo_nil ?_
          rotate_left
          refine xm_gskip 8 (m' := 511) rfl (by kernel_rfl) (by first | exact Sb.refl | exact Sb.nil | (repeat (first | exact Sb.nil | exact Sb.refl | exact Sb.app0 | apply Sb.keep | apply Sb.keepApp | apply Sb.cons | apply Sb.app))) rfl rfl rfl rfl (by kernel_rfl) ?_
          refine xm_gskip 9 (m' := 1023) rfl (by kernel_rfl) (by first | exact Sb.refl | exact Sb.nil | (repeat (first | exact Sb.nil | exact Sb.refl | exact Sb.app0 | apply Sb.keep | apply Sb.keepApp | apply Sb.cons | apply Sb.app))) rfl rfl rfl rfl (by kernel_rfl) ?_
          refine xm_gskip 10 (m' := 2047) rfl (by kernel_rfl) (by first | exact Sb.refl | exact Sb.nil | (repeat (first | exact Sb.nil | exact Sb.refl | exact Sb.app0 | apply Sb.keep | apply Sb.keepApp | apply Sb.cons | apply Sb.app))) rfl rfl rfl rfl (by kernel_rfl) ?_
          refine xm_gskip 11 (m' := 4095) rfl (by kernel_rfl) (by first | exact Sb.refl | exact Sb.nil | (repeat (first | exact Sb.nil | exact Sb.refl | exact Sb.app0 | apply Sb.keep | apply Sb.keepApp | apply Sb.cons | apply Sb.app))) rfl rfl rfl rfl (by kernel_rfl) ?_
          refine xm_gskip 12 (m' := 8191) rfl (by kernel_rfl) (by first | exact Sb.refl | exact Sb.nil | (repeat (first | exact Sb.nil | exact Sb.refl | exact Sb.app0 | apply Sb.keep | apply Sb.keepApp | apply Sb.cons | apply Sb.app))) rfl rfl rfl rfl (by kernel_rfl) ?_
          refine xm_gskip 13 (m' := 16383) rfl (by kernel_rfl) (by first | exact Sb.refl | exact Sb.nil | (repeat (first | exact Sb.nil | exact Sb.refl | exact Sb.app0 | apply Sb.keep | apply Sb.keepApp | apply Sb.cons | apply Sb.app))) rfl rfl rfl rfl (by kernel_rfl) ?_
          refine xm_gskip 14 (m' := 32767) rfl (by kernel_rfl) (by first | exact Sb.refl | exact Sb.nil | (repeat (first | exact Sb.nil | exact Sb.refl | exact Sb.app0 | apply Sb.keep | apply Sb.keepApp | apply Sb.cons | apply Sb.app))) rfl rfl rfl rfl (by kernel_rfl) ?_
          refine xm_gskip 15 (m' := 65535) rfl (by kernel_rfl) (by first | exact Sb.refl | exact Sb.nil | (repeat (first | exact Sb.nil | exact Sb.refl | exact Sb.app0 | apply Sb.keep | apply Sb.keepApp | apply Sb.cons | apply Sb.app))) rfl rfl rfl rfl (by kernel_rfl) ?_
          refine xm_gskip 16 (m' := 131071) rfl (by kernel_rfl) (by first | exact Sb.refl | exact Sb.nil | (repeat (first | exact Sb.nil | exact Sb.refl | exact Sb.app0 | apply Sb.keep | apply Sb.keepApp | apply Sb.cons | apply Sb.app))) rfl rfl rfl rfl (by kernel_rfl) ?_
          refine xm_gskip 17 (m' := 262143) rfl (by kernel_rfl) (by first | exact Sb.refl | exact Sb.nil | (repeat (first | exact Sb.nil | exact Sb.refl | exact Sb.app0 | apply Sb.keep | apply Sb.keepApp | apply Sb.cons | apply Sb.app))) rfl rfl rfl rfl (by kernel_rfl) ?_
          refine xm_gskip 18 (m' := 524287) rfl (by kernel_rfl) (by first | exact Sb.refl | exact Sb.nil | (repeat (first | exact Sb.nil | exact Sb.refl | exact Sb.app0 | apply Sb.keep | apply Sb.keepApp | apply Sb.cons | apply Sb.app))) rfl rfl rfl rfl (by kernel_rfl) ?_
          refine xm_take 19 (m' := 1048575) rfl (by kernel_rfl) (by first | exact Sb.refl | exact Sb.nil | (repeat (first | exact Sb.nil | exact Sb.refl | exact Sb.app0 | apply Sb.keep | apply Sb.keepApp | apply Sb.cons | apply Sb.app))) (rd_pickf rfl rfl) rfl (by kernel_rfl) ?_
          refine xm_done (by kernel_rfl) ?_
          refine xq_seq ?_
          refine xc_condf rfl ?_
          refine xc_skip ?_
          refine xq_block ?_
          refine xq_seq ?_
          refine xc_region ?_
          refine xo_rd (rd_move rfl) rfl ?_
          refine xo_rd (rd_addn rfl rfl (by omega) (by omega)) rfl ?_
          refine xo_rd (rd_assign rfl) rfl ?_
          refine xo_nil ?_
          rotate_left
        · exact xq_roundI (⟨k + 1, k⟩ : LpS) (hLp.hit (by omega) hkn hz1 hz2) (by dsimp only; omega) rfl (by repeat (first | exact keep_nil | refine keep_cons rfl ?_))
        · exact xq_roundI (⟨k + 1, last⟩ : LpS) (hLp.miss (by omega) hkn fun _ => hz2) (by dsimp only; omega) rfl (by repeat (first | exact keep_nil | refine keep_cons rfl ?_))
        · exact xq_roundI (⟨k + 1, last⟩ : LpS) (hLp.miss (by omega) hkn fun h => absurd hz1 h) (by dsimp only; omega) rfl (by repeat (first | exact keep_nil | refine keep_cons rfl ?_))
      · have hki : k = i := by omega
        subst hki
        rcases ask_one y.st (mx now xs[k].f3) xs[k].f1 with h | ⟨p0, hp0, hpm, hpn, h⟩
        · rw [h, Prod.mk.injEq] at ha1
          obtain ⟨hs1, hb1⟩ := ha1
          have hw0 : ws = [] := by simpa using hb1.symm
          subst hw0
          rw [show ([] : List Ow).length = 0 from rfl]
          focus
            refine xq_block_hit ?_
            refine xq_seq ?_
            refine xc_seq ?_
            refine xc_seq ?_
            refine xc_drawML [0, 1, 2, 4, 8, 24, 40, 64, 192, 320, 64, 64, 3136, 4160, 8256, 16960, 32832, 65608, 131080] [0, 1, 2, 4, 8, 24, 40, 64, 192, 320, 64, 64, 3136, 4160, 8256, 16960, 32832, 65608, 131080] (by kernel_rfl) (by kernel_rfl) (by kernel_rfl) ?_
            refine xm_take 0 (m' := 1) rfl (by kernel_rfl) (by first | exact Sb.refl | exact Sb.nil | (repeat (first | exact Sb.nil | exact Sb.refl | exact Sb.app0 | apply Sb.keep | apply Sb.keepApp | apply Sb.cons | apply Sb.app))) (rd_move rfl) rfl (by kernel_rfl) ?_
            refine xm_take 1 (m' := 3) rfl (by kernel_rfl) (by first | exact Sb.refl | exact Sb.nil | (repeat (first | exact Sb.nil | exact Sb.refl | exact Sb.app0 | apply Sb.keep | apply Sb.keepApp | apply Sb.cons | apply Sb.app))) (rd_len rfl) rfl (by kernel_rfl) ?_
            refine xm_take 2 (m' := 7) rfl (by kernel_rfl) (by first | exact Sb.refl | exact Sb.nil | (repeat (first | exact Sb.nil | exact Sb.refl | exact Sb.app0 | apply Sb.keep | apply Sb.keepApp | apply Sb.cons | apply Sb.app))) (rd_eql rfl rfl) rfl (by kernel_rfl) ?_
            refine xm_take 3 (m' := 15) rfl (by kernel_rfl) (by first | exact Sb.refl | exact Sb.nil | (repeat (first | exact Sb.nil | exact Sb.refl | exact Sb.app0 | apply Sb.keep | apply Sb.keepApp | apply Sb.cons | apply Sb.app))) (rd_move rfl) rfl (by kernel_rfl) ?_
            refine xm_gskip 4 (m' := 31) rfl (by kernel_rfl) (by first | exact Sb.refl | exact Sb.nil | (repeat (first | exact Sb.nil | exact Sb.refl | exact Sb.app0 | apply Sb.keep | apply Sb.keepApp | apply Sb.cons | apply Sb.app))) rfl rfl rfl rfl (by kernel_rfl) ?_
            refine xm_gskip 5 (m' := 63) rfl (by kernel_rfl) (by first | exact Sb.refl | exact Sb.nil | (repeat (first | exact Sb.nil | exact Sb.refl | exact Sb.app0 | apply Sb.keep | apply Sb.keepApp | apply Sb.cons | apply Sb.app))) rfl rfl rfl rfl (by kernel_rfl) ?_
            refine xm_gskip 6 (m' := 127) rfl (by kernel_rfl) (by first | exact Sb.refl | exact Sb.nil | (repeat (first | exact Sb.nil | exact Sb.refl | exact Sb.app0 | apply Sb.keep | apply Sb.keepApp | apply Sb.cons | apply Sb.app))) rfl rfl rfl rfl (by kernel_rfl) ?_
            refine xm_gskipU 7 (m' := 255) rfl (by kernel_rfl) (by first | exact Sb.refl | exact Sb.nil | (repeat (first | exact Sb.nil | exact Sb.refl | exact Sb.app0 | apply Sb.keep | apply Sb.keepApp | apply Sb.cons | apply Sb.app))) rfl rfl rfl (by kernel_rfl) ?_
            refine xm_gskipU 8 (m' := 511) rfl (by kernel_rfl) (by first | exact Sb.refl | exact Sb.nil | (repeat (first | exact Sb.nil | exact Sb.refl | exact Sb.app0 | apply Sb.keep | apply Sb.keepApp | apply Sb.cons | apply Sb.app))) rfl rfl rfl (by kernel_rfl) ?_
            refine xm_gskipU 9 (m' := 1023) rfl (by kernel_rfl) (by first | exact Sb.refl | exact Sb.nil | (repeat (first | exact Sb.nil | exact Sb.refl | exact Sb.app0 | apply Sb.keep | apply Sb.keepApp | apply Sb.cons | apply Sb.app))) rfl rfl rfl (by kernel_rfl) ?_
            refine xm_gskipU 10 (m' := 2047) rfl (by kernel_rfl) (by first | exact Sb.refl | exact Sb.nil | (repeat (first | exact Sb.nil | exact Sb.refl | exact Sb.app0 | apply Sb.keep | apply Sb.keepApp | apply Sb.cons | apply Sb.app))) rfl rfl rfl (by kernel_rfl) ?_
            refine xm_gskipU 11 (m' := 4095) rfl (by kernel_rfl) (by first | exact Sb.refl | exact Sb.nil | (repeat (first | exact Sb.nil | exact Sb.refl | exact Sb.app0 | apply Sb.keep | apply Sb.keepApp | apply Sb.cons | apply Sb.app))) rfl rfl rfl (by kernel_rfl) ?_
            refine xm_gskipU 12 (m' := 8191) rfl (by kernel_rfl) (by first | exact Sb.refl | exact Sb.nil | (repeat (first | exact Sb.nil | exact Sb.refl | exact Sb.app0 | apply Sb.keep | apply Sb.keepApp | apply Sb.cons | apply Sb.app))) rfl rfl rfl (by kernel_rfl) ?_
            refine xm_gskipU 13 (m' := 16383) rfl (by kernel_rfl) (by first | exact Sb.refl | exact Sb.nil | (repeat (first | exact Sb.nil | exact Sb.refl | exact Sb.app0 | apply Sb.keep | apply Sb.keepApp | apply Sb.cons | apply Sb.app))) rfl rfl rfl (by kernel_rfl) ?_
            refine xm_gskipU 14 (m' := 32767) rfl (by kernel_rfl) (by first | exact Sb.refl | exact Sb.nil | (repeat (first | exact Sb.nil | exact Sb.refl | exact Sb.app0 | apply Sb.keep | apply Sb.keepApp | apply Sb.cons | apply Sb.app))) rfl rfl rfl (by kernel_rfl) ?_
            refine xm_gskipU 15 (m' := 65535) rfl (by kernel_rfl) (by first | exact Sb.refl | exact Sb.nil | (repeat (first | exact Sb.nil | exact Sb.refl | exact Sb.app0 | apply Sb.keep | apply Sb.keepApp | apply Sb.cons | apply Sb.app))) rfl rfl rfl (by kernel_rfl) ?_
            refine xm_gskipU 16 (m' := 131071) rfl (by kernel_rfl) (by first | exact Sb.refl | exact Sb.nil | (repeat (first | exact Sb.nil | exact Sb.refl | exact Sb.app0 | apply Sb.keep | apply Sb.keepApp | apply Sb.cons | apply Sb.app))) rfl rfl rfl (by kernel_rfl) ?_
            refine xm_gskip 17 (m' := 262143) rfl (by kernel_rfl) (by first | exact Sb.refl | exact Sb.nil | (repeat (first | exact Sb.nil | exact Sb.refl | exact Sb.app0 | apply Sb.keep | apply Sb.keepApp | apply Sb.cons | apply Sb.app))) rfl rfl rfl rfl (by kernel_rfl) ?_
            refine xm_take 18 (m' := 524287) rfl (by kernel_rfl) (by first | exact Sb.refl | exact Sb.nil | (repeat (first | exact Sb.nil | exact Sb.refl | exact Sb.app0 | apply Sb.keep | apply Sb.keepApp | apply Sb.cons | apply Sb.app))) (rd_pickf rfl rfl) rfl (by kernel_rfl) ?_
            refine xm_done (by kernel_rfl) ?_
            refine xq_seq ?_
            refine xc_condf rfl ?_
            refine xc_skip ?_
            refine xq_seq ?_
            refine xc_seq ?_
            refine xc_region ?_
            refine xo_rd (rd_move rfl) rfl ?_
            refine xo_rd (rd_len rfl) rfl ?_
            refine xo_rd (rd_eql rfl rfl) rfl ?_
            refine xo_rd (rd_move rfl) rfl ?_
            refine xo_gskip rfl rfl rfl rfl ?_
            refine xo_gskip rfl rfl rfl rfl ?_
            refine xo_rd (rd_pickf rfl rfl) rfl ?_
            refine xo_rd (rd_move rfl) rfl ?_
            refine xo_gskip rfl rfl rfl rfl ?_
            refine xo_gskip rfl rfl rfl rfl ?_
            refine xo_gskip rfl rfl rfl rfl ?_
            refine xo_gskip rfl rfl rfl rfl ?_
            refine xo_gskip rfl rfl rfl rfl ?_
            refine xo_gskip rfl rfl rfl rfl ?_
            refine xo_gskip rfl rfl rfl rfl ?_
            refine xo_gskip rfl rfl rfl rfl ?_
            refine xo_gskip rfl rfl rfl rfl ?_
            refine xo_gskip rfl rfl rfl rfl ?_
            refine xo_gskip rfl rfl rfl rfl ?_
            refine xo_gskip rfl rfl rfl rfl ?_
            refine xo_gskip rfl rfl rfl rfl ?_
            refine xo_gskip rfl rfl rfl rfl ?_
            refine xo_rd (rd_pickf rfl rfl) rfl ?_
            refine xo_nil ?_
            refine xq_seq ?_
            refine xc_condf rfl ?_
            refine xc_skip ?_
            refine xq_block ?_
            refine xq_seq ?_
            refine xc_region ?_
            refine xo_rd (rd_move rfl) rfl ?_
            refine xo_rd (rd_addn rfl rfl (by omega) (by omega)) rfl ?_
            refine xo_rd (rd_assign rfl) rfl ?_
            refine xo_nil ?_
          refine xq_sub (L' := y1.blks ++ []) (by simp) ?_
          exact xq_roundI (⟨k + 1, mx now xs[k].f3, y1⟩ : TlS) ⟨by dsimp only; omega, hm0, hm1, hy1, by dsimp only; rw [← hs1]; exact hhy, by dsimp only; rw [← hs1]; exact htold.on fun _ hp => hp hq1⟩ (by dsimp only; omega) rfl (by repeat (first | exact keep_nil | refine keep_cons rfl ?_))
        · rw [h, Prod.mk.injEq] at ha1
          obtain ⟨hs1, hb1⟩ := ha1
          obtain ⟨w, rfl, hwb⟩ := ows1 hb1.symm
          have hold1 : y1.st.hold = a1 := by rw [← hs1]; exact hhy
          have htold1 : Told xs (k + 1) y1.st := by rw [← hs1]; exact (htold.ask _ _).on fun _ hp => hp hq1
          obtain ⟨k0, hk0, hbs⟩ := htold p0 hpm
          rw [hpn] at hk0
          rcases hl with ⟨hl, hno⟩ | ⟨l, rfl, hlp⟩
          · exact absurd hk0.num (hno k0 hk0.lt hk0.len hk0.puts)
          · have hlk := hlp.uniq hk0
            subst hlk
            have hll := hlp.len
            have hfl := hfew.1 xs[l] (List.getElem_mem _)
            obtain ⟨_, _, gl, _, _⟩ := hall xs[l] (List.getElem_mem _)
            obtain ⟨wv, wb, wl⟩ := w
            dsimp only at hwb
            subst hwb
            rw [show [Ow.mk wv p0.bs wl].length = 1 from rfl] at hO1 ⊢
            obtain ⟨qa, ka, hva, hA, _⟩ := (hw1 _ (List.Mem.head _)).o.opn
            have hlen := (hw1 _ (List.Mem.head _)).len
            dsimp only at hva hA hlen
            subst hva
            obtain ⟨b1, o1, rfl, c1⟩ := (hO1.rs (W := W) (L := y1.blks ++ (l1 ++ ([Ow.mk (.slice qa p0.bs.length ka) p0.bs wl].flatMap Ow.l ++ [(r67, .cells #[.int .u16 xs[k].f1] 30 (0, 0))]))) (by intro z hz; simp [hz])).at (j := 0) (Nat.succ_pos _)
            focus
              refine xq_block_hit ?_
              refine xq_seq ?_
              refine xc_seq ?_
              refine xc_seq ?_
              refine xc_drawML [0, 1, 2, 4, 8, 24, 40, 64, 192, 320, 64, 64, 3136, 4160, 8256, 16960, 32832, 65608, 131080] [0, 1, 2, 4, 8, 24, 40, 64, 192, 320, 64, 64, 3136, 4160, 8256, 16960, 32832, 65608, 131080] (by kernel_rfl) (by kernel_rfl) (by kernel_rfl) ?_
              refine xm_take 0 (m' := 1) rfl (by kernel_rfl) (by first | exact Sb.refl | exact Sb.nil | (repeat (first | exact Sb.nil | exact Sb.refl | exact Sb.app0 | apply Sb.keep | apply Sb.keepApp | apply Sb.cons | apply Sb.app))) (rd_move rfl) rfl (by kernel_rfl) ?_
              refine xm_take 1 (m' := 3) rfl (by kernel_rfl) (by first | exact Sb.refl | exact Sb.nil | (repeat (first | exact Sb.nil | exact Sb.refl | exact Sb.app0 | apply Sb.keep | apply Sb.keepApp | apply Sb.cons | apply Sb.app))) (rd_len rfl) rfl (by kernel_rfl) ?_
              refine xm_take 2 (m' := 7) rfl (by kernel_rfl) (by first | exact Sb.refl | exact Sb.nil | (repeat (first | exact Sb.nil | exact Sb.refl | exact Sb.app0 | apply Sb.keep | apply Sb.keepApp | apply Sb.cons | apply Sb.app))) (rd_eql rfl rfl) rfl (by kernel_rfl) ?_
              refine xm_take 3 (m' := 15) rfl (by kernel_rfl) (by first | exact Sb.refl | exact Sb.nil | (repeat (first | exact Sb.nil | exact Sb.refl | exact Sb.app0 | apply Sb.keep | apply Sb.keepApp | apply Sb.cons | apply Sb.app))) (rd_move rfl) rfl (by kernel_rfl) ?_
              refine xm_gtake 4 (m' := 31) rfl (by kernel_rfl) (by first | exact Sb.refl | exact Sb.nil | (repeat (first | exact Sb.nil | exact Sb.refl | exact Sb.app0 | apply Sb.keep | apply Sb.keepApp | apply Sb.cons | apply Sb.app))) rfl rfl (rd_move rfl) rfl (by kernel_rfl) ?_
              refine xm_gtake 5 (m' := 63) rfl (by kernel_rfl) (by first | exact Sb.refl | exact Sb.nil | (repeat (first | exact Sb.nil | exact Sb.refl | exact Sb.app0 | apply Sb.keep | apply Sb.keepApp | apply Sb.cons | apply Sb.app))) rfl rfl (rd_lss rfl rfl) rfl (by kernel_rfl) ?_
              refine xm_gtake 6 (m' := 127) rfl (by kernel_rfl) (by first | exact Sb.refl | exact Sb.nil | (repeat (first | exact Sb.nil | exact Sb.refl | exact Sb.app0 | apply Sb.keep | apply Sb.keepApp | apply Sb.cons | apply Sb.app))) rfl rfl (rd_move rfl) rfl (by kernel_rfl) ?_
              refine xm_gtake 7 (m' := 255) rfl (by kernel_rfl) (by first | exact Sb.refl | exact Sb.nil | (repeat (first | exact Sb.nil | exact Sb.refl | exact Sb.app0 | apply Sb.keep | apply Sb.keepApp | apply Sb.cons | apply Sb.app))) rfl rfl (rd_move rfl) rfl (by kernel_rfl) ?_
              refine xm_gtake 8 (m' := 511) rfl (by kernel_rfl) (by first | exact Sb.refl | exact Sb.nil | (repeat (first | exact Sb.nil | exact Sb.refl | exact Sb.app0 | apply Sb.keep | apply Sb.keepApp | apply Sb.cons | apply Sb.app))) rfl rfl (rd_indexAddr rfl rfl (by omega) (by omega)) rfl (by kernel_rfl) ?_
              refine xm_gtake 9 (m' := 1023) rfl (by kernel_rfl) (by first | exact Sb.refl | exact Sb.nil | (repeat (first | exact Sb.nil | exact Sb.refl | exact Sb.app0 | apply Sb.keep | apply Sb.keepApp | apply Sb.cons | apply Sb.app))) rfl rfl (rd_load1 rfl (c1 0 _ rfl)) rfl (by kernel_rfl) ?_
              refine xm_gtake 10 (m' := 2047) rfl (by kernel_rfl) (by first | exact Sb.refl | exact Sb.nil | (repeat (first | exact Sb.nil | exact Sb.refl | exact Sb.app0 | apply Sb.keep | apply Sb.keepApp | apply Sb.cons | apply Sb.app))) rfl rfl (rd_move rfl) rfl (by kernel_rfl) ?_
              refine xm_gtake 11 (m' := 4095) rfl (by kernel_rfl) (by first | exact Sb.refl | exact Sb.nil | (repeat (first | exact Sb.nil | exact Sb.refl | exact Sb.app0 | apply Sb.keep | apply Sb.keepApp | apply Sb.cons | apply Sb.app))) rfl rfl (rd_move rfl) rfl (by kernel_rfl) ?_
              refine xm_gtake 12 (m' := 8191) rfl (by kernel_rfl) (by first | exact Sb.refl | exact Sb.nil | (repeat (first | exact Sb.nil | exact Sb.refl | exact Sb.app0 | apply Sb.keep | apply Sb.keepApp | apply Sb.cons | apply Sb.app))) rfl rfl (rd_indexAddr rfl rfl (by omega) (by omega)) rfl (by kernel_rfl) ?_
              refine xm_gtake 13 (m' := 16383) rfl (by kernel_rfl) (by first | exact Sb.refl | exact Sb.nil | (repeat (first | exact Sb.nil | exact Sb.refl | exact Sb.app0 | apply Sb.keep | apply Sb.keepApp | apply Sb.cons | apply Sb.app))) rfl rfl (rd_fieldAddr rfl) rfl (by kernel_rfl) ?_
              refine xm_gtake 14 (m' := 32767) rfl (by kernel_rfl) (by first | exact Sb.refl | exact Sb.nil | (repeat (first | exact Sb.nil | exact Sb.refl | exact Sb.app0 | apply Sb.keep | apply Sb.keepApp | apply Sb.cons | apply Sb.app))) rfl rfl (rd_load1 rfl (hc l hll 2 _ rfl).nil) rfl (by kernel_rfl) ?_
              refine xm_gone 15 (m' := 65535) rfl (by kernel_rfl) rfl rfl rfl (by kernel_rfl) (ef_call rfl (XF.mono (xf_sameT _ _ _ _ _ _ p0.bs xs[l].f2.l hbs.symm rfl gl.len (hA.rs (by intro z hz; simp [hz])) (by rw [← ints_flat]; exact gl.rs.nilL) (by omega)) ?_))
              rintro v L' ⟨rfl, rfl⟩
              refine ⟨(by first | exact Sb.refl | exact Sb.nil | (repeat (first | exact Sb.nil | exact Sb.refl | exact Sb.app0 | apply Sb.keep | apply Sb.keepApp | apply Sb.cons | apply Sb.app))), ?_⟩
              refine xm_gtake 16 (m' := 131071) rfl (by kernel_rfl) (by first | exact Sb.refl | exact Sb.nil | (repeat (first | exact Sb.nil | exact Sb.refl | exact Sb.app0 | apply Sb.keep | apply Sb.keepApp | apply Sb.cons | apply Sb.app))) rfl rfl (rd_not rfl) rfl (by kernel_rfl) ?_
              refine xm_gtake 17 (m' := 262143) rfl (by kernel_rfl) (by first | exact Sb.refl | exact Sb.nil | (repeat (first | exact Sb.nil | exact Sb.refl | exact Sb.app0 | apply Sb.keep | apply Sb.keepApp | apply Sb.cons | apply Sb.app))) rfl rfl (rd_pickf rfl rfl) rfl (by kernel_rfl) ?_
              refine xm_take 18 (m' := 524287) rfl (by kernel_rfl) (by first | exact Sb.refl | exact Sb.nil | (repeat (first | exact Sb.nil | exact Sb.refl | exact Sb.app0 | apply Sb.keep | apply Sb.keepApp | apply Sb.cons | apply Sb.app))) (rd_pickt rfl rfl) rfl (by kernel_rfl) ?_
              refine xm_done (by kernel_rfl) ?_
              refine xq_seq ?_
              refine xc_condf rfl ?_
              refine xc_skip ?_
              refine xq_seq ?_
              refine xc_seq ?_
              refine xc_region ?_
              refine xo_rd (rd_move rfl) rfl ?_
              refine xo_rd (rd_len rfl) rfl ?_
              refine xo_rd (rd_eql rfl rfl) rfl ?_
              refine xo_rd (rd_move rfl) rfl ?_
              refine xo_grd rfl rfl (rd_move rfl) rfl ?_
              refine xo_grd rfl rfl (rd_gtr rfl rfl) rfl ?_
              refine xo_rd (rd_pickt rfl rfl) rfl ?_
              refine xo_rd (rd_move rfl) rfl ?_
              refine xo_dec 124 rfl (fun hv1 => ?_) (fun hv1 => ?_)
              refine xo_grd rfl rfl (rd_move rfl) rfl ?_
              refine xo_grd rfl rfl (rd_move rfl) rfl ?_
              refine xo_grd rfl rfl (rd_move rfl) rfl ?_
              refine xo_grd rfl rfl (rd_quon rfl rfl (by omega) (by omega) (by omega) (by omega)) rfl ?_
              refine xo_grd rfl rfl (rd_add rfl rfl) rfl ?_
              refine xo_grd rfl rfl (rd_move rfl) rfl ?_
              refine xo_grd rfl rfl (rd_move rfl) rfl ?_
              refine xo_grd rfl rfl (rd_indexAddr rfl rfl (by omega) (by omega)) rfl ?_
              refine xo_grd rfl rfl (rd_fieldAddr rfl) rfl ?_
              refine xo_grd rfl rfl (rd_load1 rfl (hc k hin 1 _ rfl).nil) rfl ?_
              refine xo_gef rfl rfl rfl (ef_slice1 rfl rfl rfl fun r135 => ?_)
              rotate_left
              refine xo_gskip rfl rfl rfl rfl ?_
              refine xo_gskip rfl rfl rfl rfl ?_
              refine xo_gskip rfl rfl rfl rfl ?_
              refine xo_gskip rfl rfl rfl rfl ?_
              refine xo_gskip rfl rfl rfl rfl ?_
              refine xo_gskip rfl rfl rfl rfl ?_
              refine xo_gskip rfl rfl rfl rfl ?_
              refine xo_gskip rfl rfl rfl rfl ?_
              refine xo_gskip rfl rfl rfl rfl ?_
              refine xo_gskip rfl rfl rfl rfl ?_
              refine xo_gskip rfl rfl rfl rfl ?_
              refine xo_gskip rfl rfl rfl rfl ?_
              refine xo_gskip rfl rfl rfl rfl ?_
              refine xo_gskip rfl rfl rfl rfl ?_
              refine xo_rd (rd_pickf rfl rfl) rfl ?_
              refine xo_nil ?_
              refine xq_seq ?_
              refine xc_condf rfl ?_
              refine xc_skip ?_
              refine xq_block ?_
              refine xq_seq ?_
              refine xc_region ?_
              refine xo_rd (rd_move rfl) rfl ?_
              refine xo_rd (rd_addn rfl rfl (by omega) (by omega)) rfl ?_
              refine xo_rd (rd_assign rfl) rfl ?_
              refine xo_nil ?_
              rotate_left
            · have hnw : IntKind.u64.wrap (mx now xs[k].f3 + a1 / 2) = (mx now xs[k].f3 + a1 / 2) % 18446744073709551616 := wrap_u64 _
              have hnw0 : 0 ≤ IntKind.u64.wrap (mx now xs[k].f3 + a1 / 2) := by rw [hnw]; omega
              have hnw1 : IntKind.u64.wrap (mx now xs[k].f3 + a1 / 2) ≤ 18446744073709551615 := by rw [hnw]; omega
              have hnw2 : IntKind.u64.wrap (mx now xs[k].f3 + a1 / 2) ≤ mx now xs[k].f3 + y.st.hold / 2 := by rw [hnw, hhy]; omega
              have h2 := ask_twice y.st (mx now xs[k].f3) _ xs[k].f1 p0 hp0 hpn (by rw [hhy]; exact hv1) hnw2
              rw [hs1] at h2
              generalize IntKind.u64.wrap (mx now xs[k].f3 + a1 / 2) = now2 at *
              refine xo_gef rfl rfl rfl (ef_call rfl (XF.mono (XF.seg [_] y1.blks _ (xf_askr y1 hy1 now2 hnw0 hnw1 _ 1 1 [xs[k].f1] rfl (Rs.fresh (List.Mem.head _)) (by decide))) ?_))
              rintro v L' ⟨y2, ws2, l2, p2, k2, hy2, hd2, ha2, rfl, hO2, hw2, hn2, rfl⟩
              rw [h2, Prod.mk.injEq] at ha2
              obtain ⟨hs2, hb2⟩ := ha2
              have hw0 : ws2 = [] := by simpa using hb2.symm
              subst hw0
              rw [show ([] : List Ow).length = 0 from rfl]
              focus
                refine xo_grd rfl rfl (rd_len rfl) rfl ?_
                refine xo_grd rfl rfl (rd_gtr rfl rfl) rfl ?_
                refine xo_rd (rd_pickt rfl rfl) rfl ?_
                refine xo_nil ?_
                refine xq_seq ?_
                refine xc_condf rfl ?_
                refine xc_skip ?_
                refine xq_block ?_
                refine xq_seq ?_
                refine xc_region ?_
                refine xo_rd (rd_move rfl) rfl ?_
                refine xo_rd (rd_addn rfl rfl (by omega) (by omega)) rfl ?_
                refine xo_rd (rd_assign rfl) rfl ?_
                refine xo_nil ?_
              rw [← hd2]
              refine xq_sub (L' := y2.blks ++ []) (by simp) ?_
              exact xq_roundI (⟨k + 1, mx now xs[k].f3, y2⟩ : TlS) ⟨by dsimp only; omega, hm0, hm1, hy2, by dsimp only; rw [← hs2]; exact hold1, by dsimp only; rw [← hs2]; exact htold1⟩ (by dsimp only; omega) rfl (by repeat (first | exact keep_nil | refine keep_cons rfl ?_))
            · refine xq_sub (L' := y1.blks ++ []) (by simp) ?_
              exact xq_roundI (⟨k + 1, mx now xs[k].f3, y1⟩ : TlS) ⟨by dsimp only; omega, hm0, hm1, hy1, hold1, htold1⟩ (by dsimp only; omega) rfl (by repeat (first | exact keep_nil | refine keep_cons rfl ?_))
  · skip
    focus
      refine xc_seq ?_
      refine xc_region ?_
      refine xo_rd (rd_assign rfl) rfl ?_
      refine xo_nil ?_
      refine xq_seq ?_
      refine xc_seq ?_
      refine xc_region ?_
      refine xo_rd (rd_move rfl) rfl ?_
      refine xo_rd (rd_move rfl) rfl ?_
      refine xo_ef rfl (ef_call rfl (XF.mono (xf_new_bad a0 a1 (by omega)) ?_))
      rintro v L' ⟨rfl, rfl⟩
      refine xo_rd (rd_move rfl) rfl ?_
      refine xo_rd (rd_extract rfl rfl) rfl ?_
      refine xo_rd (rd_extract rfl rfl) rfl ?_
      refine xo_rd (rd_assign rfl) rfl ?_
      refine xo_rd (rd_assign rfl) rfl ?_
      refine xo_nil ?_
      refine xq_seq ?_
      refine xc_seq ?_
      refine xc_seq ?_
      refine xc_region ?_
      refine xo_rd (rd_move rfl) rfl ?_
      refine xo_rd (rd_neq rfl rfl) rfl ?_
      refine xo_rd (rd_move rfl) rfl ?_
      refine xo_gskip rfl rfl rfl rfl ?_
      refine xo_gskip rfl rfl rfl rfl ?_
      refine xo_gskip rfl rfl rfl rfl ?_
      refine xo_rd (rd_pickt rfl rfl) rfl ?_
      refine xo_nil ?_
      refine xq_seq ?_
      refine xc_condt rfl ?_
      refine xc_seq ?_
      refine xc_region ?_
      refine xo_ef rfl (ef_call rfl (XF.mono (xf_works) ?_))
      rintro v L' ⟨rfl, rfl⟩
      refine xo_rd (rd_assign rfl) rfl ?_
      refine xo_nil ?_
      refine xq_seq ?_
      refine xc_ret ?_
      refine xq_then_ret ?_
      exact xq_ret1 (.inl rfl) Try.results3 rfl (rfl)
end Go.Proofs.Ytmjklmjdmocaiaa.X
