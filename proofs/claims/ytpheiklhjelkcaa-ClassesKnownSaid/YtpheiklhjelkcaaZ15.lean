/-
  Texts of my own, put together: walks and laws for this seat. No condition.
-/
import Derived.Test.YtpheiklhjelkcaaZ13
import Derived.Test.YtpheiklhjelkcaaZ14
import Derived.Test.YtpheiklhjelkcaaZ1
import Derived.ProofKit
import Derived.OpenShut
import Derived.ShutString
import Derived.ChangeOld
import Derived.Carry
import Derived.Test.YtpheiklhjelkcaaRows
/-
  Chapter 19: the calls by numbers: walks of my own.
-/
namespace Go.Proofs.Ytpheiklhjelkcaa.X
open Go Go.RowKit
set_option linter.unusedVariables false
set_option linter.unusedSimpArgs false
theorem xk_plays {W : World} {L : List Blk} (b : Int) (ca : Bool) (p : Option Addr) (n c : Nat) (xs : List Ac) (hx : xs.length = n) (hr : AcR W L p xs) (g : Int) :
    XF Try.prog W 3 #[.int .i64 b, .bool ca, .slice p n c, .int .u64 g] L (fun v L' => v = .bool true ∧ L' = L) := xf_over fun w hw => plays1 b ca p n c xs hx (hr.over hw) g
theorem xk_keep {W : World} {L : List Blk} (b : Int) (ca : Bool) (p : Option Addr) (n c : Nat) (xs : List Ac) (hx : xs.length = n) (hr : AcR W L p xs) :
    XF Try.prog W 4 #[.int .i64 b, .bool ca, .slice p n c] L (fun v L' => v = .bool true ∧ L' = L) := xf_over fun w hw => keep1 b ca p n c xs hx (hr.over hw)
theorem xk_again {W : World} {L : List Blk} (b : Int) (lp : Option Addr) (n lc : Nat) (xs : List Int) (hx : xs.length = n) (hr : Rs W L lp (ints .u16 xs)) :
    XF Try.prog W 5 #[.int .i64 b, .slice lp n lc] L (fun v L' => v = .bool true ∧ L' = L) := xf_over fun w hw => again1 b lp n lc xs hx (hr.over hw)
theorem tmod_in (x : Int) : -100003 < x.tmod 100003 ∧ x.tmod 100003 < 100003 := ⟨Int.lt_tmod_of_pos x (by decide), Int.tmod_lt_of_pos x (by decide)⟩
/-- The state of the calls by numbers. -/
structure ActS where
  i : Nat
  k : Int
  xs : List Ac
  p : Option Addr
  c : Nat
  l : List Blk
  N : List Blk
/-- What is appended. -/
structure KaS where
  x : En
theorem perm_h1 (y l R : List Blk) : (y ++ (l ++ R)).Perm (l ++ (y ++ R)) := (by classical exact List.perm_iff_count.2 fun a => by simp only [List.append_eq, List.count_append, List.count_cons, List.count_nil, List.cons_append, List.nil_append, List.flatMap_append, List.flatMap_cons, List.flatMap_nil, List.append_nil]; omega)
set_option maxHeartbeats 400000 in
theorem xf_acts {W : World} {L : List Blk} (n : Int) (hn : -100003 < n ∧ n < 100003) :
    XF Try.prog W 45 #[.int .i64 n] L (fun v L' => ∃ xs p c N, v = .slice p (List.length xs) c ∧ xs.length = 22 ∧ (∀ W, AcR W (N ++ L) p xs) ∧ L' = N ++ L) := by
  refine xf_enter (args := [_]) Try.func45 rfl Try.ntmps45 rfl ?_
  focus
    refine xc_seq ?_
    refine xc_region ?_
    refine xo_rd (rd_assign rfl) rfl ?_
    refine xo_nil ?_
    refine xq_seq ?_
    refine xc_seq ?_
    refine xc_region ?_
    refine xo_rd (rd_assign rfl) rfl ?_
    refine xo_nil ?_
    refine xq_seq ?_
    refine xc_seq ?_
    refine xc_region ?_
    refine xo_rd (rd_move rfl) rfl ?_
    refine xo_rd (rd_assign rfl) rfl ?_
    refine xo_nil ?_
    refine xq_seq ?_
    refine xc_seq ?_
    refine xc_seq ?_
    refine xc_region ?_
    refine xo_rd (rd_assign rfl) rfl ?_
    refine xo_nil ?_
    refine xq_seq ?_
    refine xc_block ?_
  refine xc_loopI (ι := ActS) (fun s => s.i ≤ 22 ∧ (-100003 < s.k ∧ s.k < 100003) ∧ s.xs.length = s.i ∧ SlQ 18 47 (.slice s.p s.xs.length s.c) s.xs.length (s.xs.flatMap Ac.enc) s.l ∧ ∀ x, x ∈ s.xs → ∀ W L', (∀ z, z ∈ s.N → z ∈ L') → x.e.i.f.At W L') (fun s => 22 - s.i) (fun s => s.l ++ (s.N ++ L)) (fun s => [(3, .slice s.p s.xs.length s.c), (4, .int .i64 s.k), (5, .int .i64 s.i)]) ⟨0, n, [], none, 0, [], []⟩ ⟨Nat.zero_le _, hn, rfl, SlQ.nil, (fun y h => by cases h)⟩ rfl (by repeat (first | exact keep_nil | refine keep_cons rfl ?_)) ?_
  rintro ⟨i, k, xs, p, c, l, N⟩ ⟨hi, hk, hxl, hsl, hat⟩
  dsimp only at hi hk hxl hsl hat ⊢
  by_cases hin : i < 22
  · have hmd := fun L' (b : Bool) (g : Int) => xf_made (W := W) (L := L') b (i : Int) g ⟨by omega, by omega⟩
    focus
      refine xc_seq ?_
      refine xc_seq ?_
      refine xc_region ?_
      refine xo_rd (rd_move rfl) rfl ?_
      refine xo_rd (rd_lss rfl rfl) rfl ?_
      refine xo_nil ?_
      refine xq_seq ?_
      refine xc_dec rfl (fun h1 => ?_) (fun h1 => (by exfalso; omega))
      refine xc_skip ?_
      refine xq_seq ?_
      refine xc_seq ?_
      refine xc_block ?_
      refine xc_seq ?_
      refine xc_region ?_
      refine xo_rd (rd_move rfl) rfl ?_
      refine xo_rd (rd_rem rfl rfl (by decide)) rfl ?_
      refine xo_rd (rd_eql rfl rfl) rfl ?_
      refine xo_rd (rd_move rfl) rfl ?_
      refine xo_rd (rd_move rfl) rfl ?_
      refine xo_rd (rd_quo rfl rfl (by decide)) rfl ?_
      refine xo_rd (rd_rem rfl rfl (by decide)) rfl ?_
      refine xo_rd (rd_conv rfl) rfl ?_
      refine xo_ef rfl (ef_call rfl (XF.mono (hmd _ _ _) ?_))
      rintro v L' ⟨y, rfl, hya, hyo, rfl⟩
      refine xo_perm (perm_h1 y.i.f.bl l (N ++ L)) ?_
      refine xo_ef rfl (ef_alloc fun r6 => ?_)
      refine xo_ef rfl (ef_storeB [] _ rfl rfl (by first | rfl | assumption) rfl rfl rfl ?_)
      refine xo_nil ?_
      refine xq_seq ?_
    focus
      refine xc_seq ?_
      refine xc_region ?_
      refine xo_rd (rd_move rfl) rfl ?_
      refine xo_rd (rd_rem rfl rfl (by decide)) rfl ?_
      refine xo_rd (rd_quo rfl rfl (by decide)) rfl ?_
      refine xo_rd (rd_fieldAddr rfl) rfl ?_
      refine xo_ef rfl (ef_store1 [] _ rfl rfl (by first | rfl | assumption) rfl rfl rfl ?_)
      refine xo_nil ?_
      refine xq_seq ?_
      refine xc_seq ?_
      refine xc_region ?_
      refine xo_rd (rd_move rfl) rfl ?_
      refine xo_rd (rd_rem rfl rfl (by decide)) rfl ?_
      refine xo_rd (rd_conv rfl) rfl ?_
      refine xo_rd (rd_fieldAddr rfl) rfl ?_
      refine xo_rd (rd_fieldAddr rfl) rfl ?_
      refine xo_rd (rd_fieldAddr rfl) rfl ?_
      refine xo_rd (rd_fieldAddr rfl) rfl ?_
      refine xo_ef rfl (ef_store1 [] _ rfl rfl (by first | rfl | assumption) rfl rfl rfl ?_)
      refine xo_nil ?_
      refine xq_seq ?_
      refine xc_seq ?_
      refine xc_region ?_
      refine xo_rd (rd_move rfl) rfl ?_
      refine xo_rd (rd_rem rfl rfl (by decide)) rfl ?_
      refine xo_rd (rd_eql rfl rfl) rfl ?_
      refine xo_rd (rd_fieldAddr rfl) rfl ?_
      refine xo_rd (rd_fieldAddr rfl) rfl ?_
      refine xo_rd (rd_fieldAddr rfl) rfl ?_
      refine xo_rd (rd_fieldAddr rfl) rfl ?_
      refine xo_ef rfl (ef_store1 [] _ rfl rfl (by first | rfl | assumption) rfl rfl rfl ?_)
      refine xo_nil ?_
      refine xq_seq ?_
    obtain ⟨x1, hx1, hx1at⟩ : ∃ x1 : En, x1 = ⟨y.g, IntKind.i64.wrap ((k.tmod 31).tdiv 15), ⟨y.i.lo, y.i.kn, y.i.ti, y.i.dr, ⟨⟨y.i.f.i.ty, y.i.f.i.tm, y.i.f.i.hp, y.i.f.i.pic, y.i.f.i.h0, y.i.f.i.t0, IntKind.u8.wrap (k.tmod 3), y.i.f.i.sy, decide (k.tmod 5 = 0)⟩, y.i.f.k, y.i.f.ps, y.i.f.p, y.i.f.c, y.i.f.l⟩⟩⟩ ∧ ∀ W L', (∀ z, z ∈ y.i.f.bl → z ∈ L') → x1.i.f.At W L' := ⟨_, rfl, fun W L' h => ⟨(hyo.at0.mono h).rs, (hyo.at0.mono h).rt⟩⟩
    have hx1e : ((y.enc.set (0 + 1) (.int .i64 (IntKind.i64.wrap ((k.tmod 31).tdiv 15)))).set (0 + 2 + 4 + 0 + 6) (.int .u8 (IntKind.u8.wrap (k.tmod 3)))).set (0 + 2 + 4 + 0 + 8) (.bool (decide (k.tmod 5 = 0))) = x1.enc := by rw [hx1]; rfl
    rw [hx1e]
    clear hx1e hx1
    refine xc_join (ι := KaS) (fun s => ∀ W L', (∀ z, z ∈ y.i.f.bl → z ∈ L') → s.x.i.f.At W L') (fun s => (r6, .cells s.x.enc.toArray 45 (0, 0)) :: (l ++ (y.i.f.bl ++ (N ++ L)))) (fun s => [(3, .slice p xs.length c), (4, .int .i64 k), (5, .int .i64 i), (6, .pointer (some ⟨r6, 0, none⟩))]) ?_ ?_
    · skip
      focus
        refine xc_seq ?_
        refine xc_region ?_
        refine xo_rd (rd_move rfl) rfl ?_
        refine xo_rd (rd_rem rfl rfl (by decide)) rfl ?_
        refine xo_rd (rd_eql rfl rfl) rfl ?_
        refine xo_nil ?_
        refine xq_seq ?_
        refine xc_dec rfl (fun hz1 => ?_) (fun hz1 => ?_)
        refine xc_region ?_
        refine xo_rd (rd_move rfl) rfl ?_
        refine xo_rd (rd_rem rfl rfl (by decide)) rfl ?_
        refine xo_rd (rd_eql rfl rfl) rfl ?_
        refine xo_rd (rd_move rfl) rfl ?_
        refine xo_rd (rd_rem rfl rfl (by decide)) rfl ?_
        refine xo_rd (rd_quo rfl rfl (by decide)) rfl ?_
        refine xo_rd (rd_mul rfl rfl) rfl ?_
        refine xo_rd (rd_conv rfl) rfl ?_
        refine xo_rd (rd_move rfl) rfl ?_
        refine xo_rd (rd_rem rfl rfl (by decide)) rfl ?_
        refine xo_rd (rd_eql rfl rfl) rfl ?_
        refine xo_rd (rd_cast (v' := .agg (It.enc ⟨true, decide (k.tmod 4 = 3), IntKind.u8.wrap (IntKind.i64.wrap ((IntKind.i64.wrap ((k.tmod 4).tdiv 3)) * 2)), decide (k.tmod 12 = 7), zFr⟩).toArray) (rd_build (T := 43) rfl rfl rfl) (by kernel_rfl)) rfl ?_
        refine xo_rd (rd_fieldAddr rfl) rfl ?_
        refine xo_ef rfl (ef_storeW [] (l ++ (y.i.f.bl ++ (N ++ L))) 2 (vs := It.enc ⟨true, decide (k.tmod 4 = 3), IntKind.u8.wrap (IntKind.i64.wrap ((IntKind.i64.wrap ((k.tmod 4).tdiv 3)) * 2)), decide (k.tmod 12 = 7), zFr⟩) (cs := x1.enc) (ws := En.enc ⟨x1.g, x1.s, ⟨true, decide (k.tmod 4 = 3), IntKind.u8.wrap (IntKind.i64.wrap ((IntKind.i64.wrap ((k.tmod 4).tdiv 3)) * 2)), decide (k.tmod 12 = 7), zFr⟩⟩) rfl rfl rfl rfl rfl (by rw [En.len, It.len]; decide) (by kernel_rfl) ?_)
        refine xo_nil ?_
        rotate_left
        refine xc_skip ?_
        rotate_left
      · have hz0 : ∀ W L', (∀ z, z ∈ y.i.f.bl → z ∈ L') → zFr.At W L' := fun W L' h => zFr_at
        exact xq_joined (⟨⟨x1.g, x1.s, ⟨true, decide (k.tmod 4 = 3), IntKind.u8.wrap (IntKind.i64.wrap ((IntKind.i64.wrap ((k.tmod 4).tdiv 3)) * 2)), decide (k.tmod 12 = 7), zFr⟩⟩⟩ : KaS) (fun W L' h => zFr_at) rfl (by repeat (first | exact keep_nil | refine keep_cons rfl ?_))
      · exact xq_joined (⟨x1⟩ : KaS) hx1at rfl (by repeat (first | exact keep_nil | refine keep_cons rfl ?_))
    rintro ⟨x⟩ hxat
    dsimp only at hxat ⊢
    have htm := tmod_in (k * 29 + 13 * i + 3)
    focus
      refine xc_seq ?_
      refine xc_region ?_
      refine xo_rd (rd_move rfl) rfl ?_
      refine xo_rd (rd_move rfl) rfl ?_
      refine xo_rd (rd_quo rfl rfl (by decide)) rfl ?_
      refine xo_rd (rd_rem rfl rfl (by decide)) rfl ?_
      refine xo_rd (rd_loadB rfl Kn.o0 (by rfl)) rfl ?_
      refine xo_rd (rd_cast (v' := .agg (Ac.enc ⟨(IntKind.i64.wrap (k.tdiv 3)).tmod 5, x⟩).toArray) (rd_build (T := 47) rfl rfl rfl) (by kernel_rfl)) rfl ?_
      refine xo_ef rfl (ef_sliceA (vs := Ac.enc ⟨(IntKind.i64.wrap (k.tdiv 3)).tmod 5, x⟩) rfl rfl (by rw [Ac.len]; decide) (by rw [Ac.len]; decide) fun r61 => ?_)
      refine xo_ef rfl (ef_appendQS [_, _] (y.i.f.bl ++ (N ++ L)) l (news := Ac.enc ⟨(IntKind.i64.wrap (k.tdiv 3)).tmod 5, x⟩) rfl rfl hsl rfl (Rs.fresh (List.Mem.head _)) rfl rfl (by decide) (by omega) (by omega) fun q2 k2 l2 hO2 hk2 => ?_)
      refine xo_rd (rd_assign rfl) rfl ?_
      refine xo_nil ?_
      refine xq_seq ?_
      refine xc_region ?_
      refine xo_rd (rd_move rfl) rfl ?_
      refine xo_rd (rd_muln rfl rfl (by omega) (by omega)) rfl ?_
      refine xo_rd (rd_move rfl) rfl ?_
      refine xo_rd (rd_muln rfl rfl (by omega) (by omega)) rfl ?_
      refine xo_rd (rd_addn rfl rfl (by omega) (by omega)) rfl ?_
      refine xo_rd (rd_addn rfl rfl (by omega) (by omega)) rfl ?_
      refine xo_rd (rd_rem rfl rfl (by decide)) rfl ?_
      refine xo_rd (rd_assign rfl) rfl ?_
      refine xo_nil ?_
      refine xq_block ?_
      refine xq_seq ?_
      refine xc_region ?_
      refine xo_rd (rd_move rfl) rfl ?_
      refine xo_rd (rd_addn rfl rfl (by omega) (by omega)) rfl ?_
      refine xo_rd (rd_assign rfl) rfl ?_
      refine xo_nil ?_
    refine xq_sub (List.sublist_append_right [_, _] _) (xq_roundI (⟨i + 1, (k * 29 + 13 * i + 3).tmod 100003, xs ++ [⟨(IntKind.i64.wrap (k.tdiv 3)).tmod 5, x⟩], q2, k2, l2, y.i.f.bl ++ N⟩ : ActS) ⟨by dsimp only; omega, htm, by dsimp only; rw [List.length_append, hxl]; rfl, ?_, ?_⟩ (by dsimp only; omega) (by dsimp only; rw [List.append_assoc]) ?_)
    · dsimp only
      rw [List.length_append, List.flatMap_append, List.flatMap_singleton]; exact hO2
    · intro z hz2 W L' h
      rcases List.mem_append.1 hz2 with h2 | h2
      · exact hat z h2 W L' fun z hz => h z (List.mem_append_right _ hz)
      · rw [List.mem_singleton.1 h2]; exact hxat W L' fun z hz => h z (List.mem_append_left _ hz)
    · dsimp only
      rw [List.length_append]
      exact (by repeat (first | exact keep_nil | refine keep_cons rfl ?_))
  · skip
    focus
      refine xc_seq ?_
      refine xc_seq ?_
      refine xc_region ?_
      refine xo_rd (rd_move rfl) rfl ?_
      refine xo_rd (rd_lss rfl rfl) rfl ?_
      refine xo_nil ?_
      refine xq_seq ?_
      refine xc_dec rfl (fun h1 => (by exfalso; omega)) (fun h1 => ?_)
      refine xc_exit ?_
      refine xq_then_exit ?_
      refine xq_then_exit ?_
      refine xq_block_hit ?_
      refine xq_seq ?_
      refine xc_seq ?_
      refine xc_region ?_
      refine xo_rd (rd_move rfl) rfl ?_
      refine xo_rd (rd_assign rfl) rfl ?_
      refine xo_nil ?_
      refine xq_seq ?_
      refine xc_ret ?_
    refine xq_ret1 (.inl rfl) Try.results45 rfl ⟨xs, p, c, l ++ N, rfl, by omega, fun W => ⟨hsl.rs fun z hz => List.mem_append_left _ (List.mem_append_left _ hz), fun x hx => hat x hx W _ fun z hz => List.mem_append_left _ (List.mem_append_right _ hz)⟩, (List.append_assoc ..).symm⟩
end Go.Proofs.Ytpheiklhjelkcaa.X
/-
  Words of my own: what an argument that can be read holds, for the rows. No condition; generic over the program.
-/
namespace Go.Proofs.Ytpheiklhjelkcaa.X
open Go Go.RowKit
set_option linter.unusedVariables false
set_option linter.unusedSimpArgs false

/-- Cells of type T that can be read in W are those of some a that is good. -/
def Op' (P : Program) (W : World) (T : Nat) {α : Type} (enc : α → List Value) (Good : α → Prop) : Prop :=
  ∀ {H : Type} (encH : TypeId × Value → H) (fuel : Nat) (cs : List Value) (x : DataW H × List MemPlace), DataW.trod encH P W 0 (fun _ => true) true fuel T cs = some x → ∃ a, cs = enc a ∧ Good a

def InK (k : IntKind) (n : Int) : Prop := k.min ≤ n ∧ n ≤ k.max
theorem inK_u64 {n : Int} : InK .u64 n ↔ 0 ≤ n ∧ n ≤ 18446744073709551615 := Iff.rfl
theorem inK_u32 {n : Int} : InK .u32 n ↔ 0 ≤ n ∧ n ≤ 4294967295 := Iff.rfl
theorem inK_u16 {n : Int} : InK .u16 n ↔ 0 ≤ n ∧ n ≤ 65535 := Iff.rfl
theorem inK_u8 {n : Int} : InK .u8 n ↔ 0 ≤ n ∧ n ≤ 255 := Iff.rfl
theorem inK_i64 {n : Int} : InK .i64 n ↔ -9223372036854775808 ≤ n ∧ n ≤ 9223372036854775807 := Iff.rfl
theorem inK_i32 {n : Int} : InK .i32 n ↔ -2147483648 ≤ n ∧ n ≤ 2147483647 := Iff.rfl
theorem inK_of {k : IntKind} {n : Int} (h : (Lit.int k n).wf = true) : InK k n := by simpa [Lit.wf, InK] using h

/-- A slice's value: where, how many, and what its elements are. -/
structure SlV (α : Type) where
  p : Option Addr
  n : Nat
  c : Nat
  l : List α
def SlV.enc {α : Type} (v : SlV α) : List Value := [.slice v.p v.n v.c]
structure SlV.Good {α : Type} (W : World) (enc : α → List Value) (G : α → Prop) (v : SlV α) : Prop where
  len : v.l.length = v.n
  rs : Rs W [] v.p (v.l.flatMap enc)
  all : ∀ x, x ∈ v.l → G x
  cap : v.n ≤ v.c
  max : v.c ≤ 9223372036854775807
theorem exists_list {α : Type} {R : Nat → α → Prop} : ∀ (n : Nat), (∀ i, i < n → ∃ x, R i x) → ∃ l : List α, l.length = n ∧ ∀ (i : Nat) (x : α), l[i]? = some x → R i x
  | 0, _ => ⟨[], rfl, fun i x h => by cases h⟩
  | n + 1, h => by
    obtain ⟨l, hl, hr⟩ := exists_list n (fun i hi => h i (by omega))
    obtain ⟨x, hx⟩ := h n (by omega)
    refine ⟨l ++ [x], by simp [hl], fun i y hy => ?_⟩
    by_cases hi : i < n
    · rw [List.getElem?_append_left (by omega)] at hy; exact hr i y hy
    · rw [List.getElem?_append_right (by omega)] at hy
      have : i = n := by
        have := (List.getElem?_eq_some_iff.1 hy).1
        simp at this; omega
      subst this
      simp [hl] at hy
      subst hy; exact hx
theorem flat_at {α : Type} (enc : α → List Value) {s : Nat} (hs : ∀ x, (enc x).length = s) (h0 : 0 < s) : ∀ (l : List α) (j : Nat) (u : Value), (l.flatMap enc)[j]? = some u → ∃ x, l[j / s]? = some x ∧ (enc x)[j % s]? = some u
  | [], j, u, h => by simp at h
  | y :: r, j, u, h => by
    rw [List.flatMap_cons] at h
    by_cases hj : j < s
    · rw [List.getElem?_append_left (by rw [hs]; exact hj)] at h
      exact ⟨y, by rw [Nat.div_eq_of_lt hj]; rfl, by rw [Nat.mod_eq_of_lt hj]; exact h⟩
    · rw [List.getElem?_append_right (by rw [hs]; omega), hs] at h
      obtain ⟨x, h1, h2⟩ := flat_at enc hs h0 r (j - s) u h
      refine ⟨x, ?_, ?_⟩
      · rw [show j / s = (j - s) / s + 1 from by rw [Nat.div_eq_sub_div h0 (by omega)]]; simpa using h1
      · rw [show j % s = (j - s) % s from Nat.mod_eq_sub_mod (by omega)]; exact h2
section
variable {P : Program} {W : World}
theorem op_int {T : Nat} {k : IntKind} [h : Ik P T k] : Op' P W T (fun n : Int => [.int k n]) (InK k) := fun encH fuel cs x hx => by
  obtain ⟨n, h1, h2, h3⟩ := DataW.trod_int h.h hx
  exact ⟨n, h1, inK_of h3⟩
theorem op_bool {T : Nat} [h : Bo P T] : Op' P W T (fun b : Bool => [.bool b]) (fun _ => True) := fun encH fuel cs x hx => by
  obtain ⟨n, h1, h2⟩ := DataW.trod_bool h.h hx
  exact ⟨n, h1, trivial⟩
theorem op_string {T : Nat} [h : St P T] : Op' P W T (fun s : ByteArray => [.string s]) (fun s => s.size ≤ 9223372036854775807) := fun encH fuel cs x hx => by
  obtain ⟨s, h1, h2, h3⟩ := DataW.trod_string h.h hx
  exact ⟨s, h1, by unfold maxLen at h3; exact h3⟩
theorem op_slice {α : Type} {T e s : Nat} {z : Value} {bt : Nat} {enc : α → List Value} {G : α → Prop} [h : Sl P T e] [hi : Inf P e z s bt] (he : Op' P W e enc G) (hs : ∀ x, (enc x).length = s) (h0 : 0 < s) :
    Op' P W T (SlV.enc (α := α)) (SlV.Good W enc G) := fun encH fuel cs x hx => by
  have hc : P.cellsOf e = s := by
    obtain ⟨i, h1, h2, h3, h4, h5⟩ := hi.h
    simp [Program.cellsOf, h1, h3]
  rcases DataW.trod_slice h.h hx with ⟨h1, _⟩ | ⟨a, len, cap, elems, rest, m, _, h1, _, _, hl, hm, hlen, hel, _, _⟩
  · exact ⟨⟨none, 0, 0, []⟩, h1, ⟨rfl, Rs.nil, (fun _ h => by cases h), Nat.le_refl _, Nat.zero_le _⟩⟩
  · rw [hc] at hel
    have hex : ∀ i, i < len → ∃ x, W.cells? 0 (a.add (i * s)) s = some (enc x) ∧ G x := fun i hi => by
      have h2 := hel i hi
      rw [List.getElem?_eq_getElem (by omega)] at h2
      obtain ⟨ecs, h3, h4⟩ := Option.bind_eq_some_iff.1 h2
      obtain ⟨x, rfl, hg⟩ := he encH m ecs _ h4
      exact ⟨x, h3, hg⟩
    obtain ⟨l, hl1, hl2⟩ := exists_list len hex
    refine ⟨⟨some a, len, cap, l⟩, h1, ⟨hl1, ?_, ?_, hl, by unfold maxLen at hm; exact hm⟩⟩
    · intro j u hj
      have cell : ∀ j u, (l.flatMap enc)[j]? = some u → W.cell? (a.add j) = some u := fun j u hj => by
        obtain ⟨x, h2, h3⟩ := flat_at enc hs h0 l j u hj
        have h4 := (hl2 _ _ h2).1
        have h5 := (World.cells?_some h4).2.2 (j % s) (Nat.mod_lt _ h0)
        rw [h3] at h5
        have h6 : (a.add (j / s * s)).add (j % s) = a.add j := by
          have hdm : j / s * s + j % s = j := by rw [Nat.mul_comm]; exact Nat.div_add_mod j s
          obtain ⟨b, o, sp⟩ := a
          unfold Addr.add
          by_cases e1 : j / s * s = 0
          · rw [if_pos e1]
            have e2 : j % s = j := by omega
            rw [e2]
          · rw [if_neg e1, if_neg (show ¬ j = 0 by omega)]
            by_cases e2 : j % s = 0
            · rw [if_pos e2]
              have : j / s * s = j := by omega
              rw [this]
            · rw [if_neg e2]
              simp only [Addr.mk.injEq, true_and, and_true]
              omega
        rw [h6] at h5
        exact h5
      have hpos : 0 < (l.flatMap enc).length := Nat.lt_of_le_of_lt (Nat.zero_le j) (List.getElem?_eq_some_iff.1 hj).1
      have hsp : a.spot = none := by
        have := cell 0 _ (List.getElem?_eq_getElem hpos)
        have e0 : a.add 0 = a := rfl
        rw [e0] at this
        unfold World.cell? at this
        split at this
        · split at this
          · cases this
          · rename_i hh; simpa using hh
        · cases this
      obtain ⟨b, o, sp⟩ := a
      subst hsp
      refine ⟨b, o, rfl, Cl.base ?_⟩
      have := cell j u hj
      rwa [add_zero'] at this
    · intro x hx
      obtain ⟨i, hi1, hi2⟩ := List.getElem_of_mem hx
      exact (hl2 i x (by rw [List.getElem?_eq_getElem hi1, hi2])).2
/-- A struct's field. -/
theorem op_field {H : Type} {encH : TypeId × Value → H} {fuel T : Nat} {cs : List Value} {x : DataW H × List MemPlace} {fs : Array Field} (hT : P.underlying T = some (.struct fs)) (h : DataW.trod encH P W 0 (fun _ => true) true fuel T cs = some x) :
    cs.length = P.cellsOf T ∧ ∀ (i : Nat) (f : Field), fs[i]? = some f → ∃ m y, DataW.trod encH P W 0 (fun _ => true) true m f.type ((cs.drop f.offset).take (P.cellsOf f.type)) = some y := by
  obtain ⟨xs, m, _, _, h1, h2, h3⟩ := DataW.trod_struct hT h
  refine ⟨h1, fun i f hf => ⟨m, xs[i]'(by have := (Array.getElem?_eq_some_iff.1 hf).1; omega), ?_⟩⟩
  rw [h3 i f hf, List.getElem?_eq_getElem]
theorem op_field' {α : Type} {enc : α → List Value} {G : α → Prop} {T i off Tf s : Nat} {z : Value} {bt : Nat} [hF : Fd P T i off Tf] [hi : Inf P Tf z s bt] (he : Op' P W Tf enc G) {H : Type} {encH : TypeId × Value → H} {fuel : Nat} {cs : List Value} {x : DataW H × List MemPlace}
    (h : DataW.trod encH P W 0 (fun _ => true) true fuel T cs = some x) : ∃ a, (cs.drop off).take s = enc a ∧ G a := by
  obtain ⟨fs, f, h1, h2, h3, h4⟩ := hF.h
  have hc : P.cellsOf Tf = s := by
    obtain ⟨i, h1, h2, h3, h4, h5⟩ := hi.h
    simp [Program.cellsOf, h1, h3]
  obtain ⟨_, h5⟩ := op_field h1 h
  obtain ⟨m, y, h6⟩ := h5 i f h2
  rw [h3, h4, hc] at h6
  exact he encH m _ y h6
theorem op_len {T s : Nat} {z : Value} {bt i off Tf : Nat} [hF : Fd P T i off Tf] [hi : Inf P T z s bt] {H : Type} {encH : TypeId × Value → H} {fuel : Nat} {cs : List Value} {x : DataW H × List MemPlace}
    (h : DataW.trod encH P W 0 (fun _ => true) true fuel T cs = some x) : cs.length = s := by
  obtain ⟨fs, f, h1, h2, h3, h4⟩ := hF.h
  have hc : P.cellsOf T = s := by
    obtain ⟨i, h1, h2, h3, h4, h5⟩ := hi.h
    simp [Program.cellsOf, h1, h3]
  rw [← hc]
  exact (op_field h1 h).1
/-- The argument's value itself. -/
theorem top_one {α : Type} {T : Nat} {enc : α → List Value} {G : α → Prop} (he : Op' P W T enc G) {H : Type} {encH : TypeId × Value → H} {v : Value} {d : DataW H} {ps : List MemPlace} (h : DataW.Trod encH P W 0 (fun _ => true) true T v d ps) (h1 : v.cells.toList = [v]) : ∃ a, [v] = enc a ∧ G a := by
  obtain ⟨fuel, hf⟩ := h
  rw [h1] at hf
  exact he encH fuel _ _ hf
theorem top_agg {α : Type} {T : Nat} {enc : α → List Value} {G : α → Prop} (he : Op' P W T enc G) {H : Type} {encH : TypeId × Value → H} {cs : Array Value} {d : DataW H} {ps : List MemPlace} (h : DataW.Trod encH P W 0 (fun _ => true) true T (.agg cs) d ps) : ∃ a, cs = (enc a).toArray ∧ G a := by
  obtain ⟨fuel, hf⟩ := h
  obtain ⟨a, h1, h2⟩ := he encH fuel _ _ hf
  refine ⟨a, ?_, h2⟩
  have h3 : cs.toList = enc a := h1
  rw [← h3]
end
end Go.Proofs.Ytpheiklhjelkcaa.X
/-
  ClassesKnown: the examples of the chapter, calls by numbers, by small bounds; a closed statement, no condition.
-/
namespace Go.Proofs.Ytpheiklhjelkcaa.X
open Go Go.RowKit
set_option linter.unusedVariables false
set_option linter.unusedSimpArgs false
def b4s : List Int := [-1, 0, 256, 257]
def bF (t : Int) : Int := b4s.getD t.toNat 0
theorem b4_all : ∀ i : Nat, i < 4 → b4s[i]? = some (bF (i : Int)) ∧ (-100003 < bF (i : Int) ∧ bF (i : Int) < 100003) := by decide
theorem bF_cl {W : World} {L : List Blk} {r T : Nat} (h : (r, .cells (ints .i64 b4s).toArray T (0, 0)) ∈ L) (t : Int) (h0 : 0 ≤ t) (h1 : t < 4) : Cl W L r (0 + t.toNat * 1) (.int .i64 (bF t)) := by
  refine Cl.own h ?_
  have := (b4_all t.toNat (by omega)).1
  rw [Int.toNat_of_nonneg h0] at this
  show (ints .i64 b4s).toArray[0 + t.toNat * 1]? = _
  rw [Nat.zero_add, Nat.mul_one]
  simp only [ints, List.getElem?_toArray, List.getElem?_map, this]; rfl
/-- The state of the numbers. -/
structure NuS where
  i : Nat
  ys : List Int
  p : Option Addr
  c : Nat
  l : List Blk
set_option maxRecDepth 8000 in
set_option maxHeartbeats 3200000 in
theorem xf_ClassesKnown {W : World} : XF Try.prog W 7 #[] [] (fun v L' => v = .bool true) := by
  refine xf_enter (args := []) Try.func7 rfl Try.ntmps7 rfl ?_
  focus
    refine xc_seq ?_
    refine xc_region ?_
    refine xo_rd (rd_assign rfl) rfl ?_
    refine xo_nil ?_
    refine xq_seq ?_
    refine xc_seq ?_
    refine xc_seq ?_
    refine xc_region ?_
    refine xo_rd (rd_assign rfl) rfl ?_
    refine xo_nil ?_
    refine xq_seq ?_
    refine xc_block ?_
  refine xc_loopK (ι := Nat) (fun n => n ≤ 160) (fun n => 160 - n) (fun n => [(1, .int .i64 n)]) 0 (Nat.zero_le _) (by repeat (first | exact keep_nil | refine keep_cons rfl ?_)) ?_
  intro n hn
  by_cases hnn : n < 160
  · skip
    focus
      refine xc_seq ?_
      refine xc_seq ?_
      refine xc_region ?_
      refine xo_rd (rd_move rfl) rfl ?_
      refine xo_rd (rd_lss rfl rfl) rfl ?_
      refine xo_nil ?_
      refine xq_seq ?_
      refine xc_dec rfl (fun h1 => ?_) (fun h1 => (by exfalso; omega))
      refine xc_skip ?_
      refine xq_seq ?_
      refine xc_seq ?_
      refine xc_block ?_
      refine xc_seq ?_
      refine xc_region ?_
      refine xo_rd (rd_move rfl) rfl ?_
      refine xo_rd (rd_muln rfl rfl (by omega) (by omega)) rfl ?_
      refine xo_ef rfl (ef_call rfl (XF.mono (xf_acts ((n : Int) * 53) ⟨by omega, by omega⟩) ?_))
      rintro v L' ⟨xs, p, c, N, rfl, hxl, hac, rfl⟩
      refine xo_rd (rd_assign rfl) rfl ?_
      refine xo_nil ?_
      refine xq_seq ?_
    have hA : ∀ L', (∀ z, z ∈ N → z ∈ L') → AcR W L' p xs := fun L' h => (hac W).mono fun z hz => h z (by rwa [List.append_nil] at hz)
    focus
      refine xc_seq ?_
      refine xc_seq ?_
      refine xc_region ?_
      refine xo_rd (rd_move rfl) rfl ?_
      refine xo_rd (rd_remn rfl rfl (by omega) (by omega)) rfl ?_
      refine xo_rd (rd_addn rfl rfl (by omega) (by omega)) rfl ?_
      refine xo_rd (rd_move rfl) rfl ?_
      refine xo_rd (rd_remn rfl rfl (by omega) (by omega)) rfl ?_
      refine xo_rd (rd_gtr rfl rfl) rfl ?_
      refine xo_rd (rd_move rfl) rfl ?_
      refine xo_rd (rd_move rfl) rfl ?_
      refine xo_rd (rd_remn rfl rfl (by omega) (by omega)) rfl ?_
      refine xo_rd (rd_convn rfl (by omega) (by omega)) rfl ?_
      refine xo_ef rfl (ef_call rfl (XF.mono (xk_plays _ _ p xs.length c xs rfl (hA _ (by intro z hz; simp [hz])) _) ?_))
      rintro v L' ⟨rfl, rfl⟩
      refine xo_rd (rd_not rfl) rfl ?_
      refine xo_rd (rd_move rfl) rfl ?_
      refine xo_grd rfl rfl (rd_move rfl) rfl ?_
      refine xo_grd rfl rfl (rd_move rfl) rfl ?_
      refine xo_grd rfl rfl (rd_remn rfl rfl (by omega) (by omega)) rfl ?_
      refine xo_grd rfl rfl (rd_gtr rfl rfl) rfl ?_
      refine xo_grd rfl rfl (rd_move rfl) rfl ?_
      refine xo_gef rfl rfl rfl (ef_call rfl (XF.mono (xk_keep _ _ p xs.length c xs rfl (hA _ (by intro z hz; simp [hz]))) ?_))
      rintro v L' ⟨rfl, rfl⟩
      refine xo_grd rfl rfl (rd_not rfl) rfl ?_
      refine xo_rd (rd_pickf rfl rfl) rfl ?_
      refine xo_nil ?_
      refine xq_seq ?_
      refine xc_condf rfl ?_
      refine xc_skip ?_
      refine xq_seq ?_
      refine xc_seq ?_
      refine xc_region ?_
      refine xo_rd (rd_assign rfl) rfl ?_
      refine xo_nil ?_
      refine xq_seq ?_
      refine xc_seq ?_
      refine xc_seq ?_
      refine xc_region ?_
      refine xo_rd (rd_assign rfl) rfl ?_
      refine xo_nil ?_
      refine xq_seq ?_
      refine xc_block ?_
    refine xc_loopI (ι := NuS) (fun s => s.i ≤ 20 ∧ s.ys.length = s.i ∧ SlQ 1 36 (.slice s.p s.ys.length s.c) s.ys.length (ints .u16 s.ys) s.l) (fun s => 20 - s.i) (fun s => s.l ++ (N ++ [])) (fun s => [(1, .int .i64 n), (3, .slice s.p s.ys.length s.c), (4, .int .i64 s.i)]) ⟨0, [], none, 0, []⟩ ⟨Nat.zero_le _, rfl, SlQ.nil⟩ rfl (by repeat (first | exact keep_nil | refine keep_cons rfl ?_)) ?_
    rintro ⟨i, ys, p1, c1, l⟩ ⟨hi, hyl, hsl⟩
    dsimp only at hi hyl hsl ⊢
    by_cases hin : i < 20
    · have hsq : (i : Int) * i ≤ 400 ∧ 0 ≤ (i : Int) * i := by
        have h1 : i * i ≤ 20 * 20 := Nat.mul_le_mul (by omega) (by omega)
        have h2 : ((i * i : Nat) : Int) = (i : Int) * i := Int.natCast_mul i i
        omega
      focus
        refine xc_seq ?_
        refine xc_seq ?_
        refine xc_region ?_
        refine xo_rd (rd_move rfl) rfl ?_
        refine xo_rd (rd_lss rfl rfl) rfl ?_
        refine xo_nil ?_
        refine xq_seq ?_
        refine xc_dec rfl (fun hz1 => ?_) (fun hz1 => (by exfalso; omega))
        refine xc_skip ?_
        refine xq_seq ?_
        refine xc_seq ?_
        refine xc_block ?_
        refine xc_region ?_
        refine xo_rd (rd_move rfl) rfl ?_
        refine xo_rd (rd_move rfl) rfl ?_
        refine xo_rd (rd_muln rfl rfl (by omega) (by omega)) rfl ?_
        refine xo_rd (rd_move rfl) rfl ?_
        refine xo_rd (rd_move rfl) rfl ?_
        refine xo_rd (rd_muln rfl rfl (by omega) (by omega)) rfl ?_
        refine xo_rd (rd_muln rfl rfl (by omega) (by omega)) rfl ?_
        refine xo_rd (rd_addn rfl rfl (by omega) (by omega)) rfl ?_
        refine xo_rd (rd_remn rfl rfl (by omega) (by omega)) rfl ?_
        refine xo_rd (rd_convn rfl (by omega) (by omega)) rfl ?_
        refine xo_ef rfl (ef_slice1 rfl rfl rfl fun r49 => ?_)
        refine xo_ef rfl (ef_appendQS [_] (N ++ []) l (news := [.int .u16 (((n : Int) * 7 + (i : Int) * i * 3) % 23)]) rfl rfl hsl rfl (Rs.fresh (List.Mem.head _)) rfl rfl (by decide) (by omega) (by omega) fun q2 k2 l2 hO2 hk2 => ?_)
        refine xo_rd (rd_assign rfl) rfl ?_
        refine xo_nil ?_
        refine xq_block ?_
        refine xq_seq ?_
        refine xc_region ?_
        refine xo_rd (rd_move rfl) rfl ?_
        refine xo_rd (rd_addn rfl rfl (by omega) (by omega)) rfl ?_
        refine xo_rd (rd_assign rfl) rfl ?_
        refine xo_nil ?_
      refine xq_sub (List.sublist_append_right [_] _) (xq_roundI (⟨i + 1, ys ++ [((n : Int) * 7 + (i : Int) * i * 3) % 23], q2, k2, l2⟩ : NuS) ⟨by dsimp only; omega, by dsimp only; rw [List.length_append, hyl]; rfl, ?_⟩ (by dsimp only; omega) rfl ?_)
      · dsimp only
        rw [List.length_append, ints_app]; exact hO2
      · dsimp only
        rw [List.length_append]
        exact (by repeat (first | exact keep_nil | refine keep_cons rfl ?_))
    · skip
      focus
        refine xc_seq ?_
        refine xc_seq ?_
        refine xc_region ?_
        refine xo_rd (rd_move rfl) rfl ?_
        refine xo_rd (rd_lss rfl rfl) rfl ?_
        refine xo_nil ?_
        refine xq_seq ?_
        refine xc_dec rfl (fun hz1 => (by exfalso; omega)) (fun hz1 => ?_)
        refine xc_exit ?_
        refine xq_then_exit ?_
        refine xq_then_exit ?_
        refine xq_block_hit ?_
        refine xq_seq ?_
        refine xc_seq ?_
        refine xc_region ?_
        refine xo_rd (rd_move rfl) rfl ?_
        refine xo_rd (rd_remn rfl rfl (by omega) (by omega)) rfl ?_
        refine xo_rd (rd_addn rfl rfl (by omega) (by omega)) rfl ?_
        refine xo_rd (rd_move rfl) rfl ?_
        refine xo_ef rfl (ef_call rfl (XF.mono (xk_again _ p1 ys.length c1 ys rfl (hsl.rs (by intro z hz; simp [hz]))) ?_))
        rintro v L' ⟨rfl, rfl⟩
        refine xo_rd (rd_not rfl) rfl ?_
        refine xo_nil ?_
        refine xq_seq ?_
        refine xc_condf rfl ?_
        refine xc_skip ?_
        refine xq_block ?_
        refine xq_seq ?_
        refine xc_region ?_
        refine xo_rd (rd_move rfl) rfl ?_
        refine xo_rd (rd_addn rfl rfl (by omega) (by omega)) rfl ?_
        refine xo_rd (rd_assign rfl) rfl ?_
        refine xo_nil ?_
      exact xq_roundK rfl (n + 1) (by omega) (by omega) (List.nil_sublist _) (by repeat (first | exact keep_nil | refine keep_cons rfl ?_))
  · skip
    focus
      refine xc_seq ?_
      refine xc_seq ?_
      refine xc_region ?_
      refine xo_rd (rd_move rfl) rfl ?_
      refine xo_rd (rd_lss rfl rfl) rfl ?_
      refine xo_nil ?_
      refine xq_seq ?_
      refine xc_dec rfl (fun h1 => (by exfalso; omega)) (fun h1 => ?_)
      refine xc_exit ?_
      refine xq_then_exit ?_
      refine xq_then_exit ?_
      refine xq_block_hit ?_
      refine xq_seq ?_
      refine xc_seq ?_
      refine xc_seq ?_
      refine xc_region ?_
    refine xo_ef rfl (ef_buildL (T := 101) (len := 4) (s := 1) (cells := (ints .i64 b4s).toArray) rfl (by decide) (by decide) (by kernel_rfl) fun r57 => ?_)
    focus
      refine xo_rd (rd_len rfl) rfl ?_
      refine xo_rd (rd_move rfl) rfl ?_
      refine xo_nil ?_
      refine xq_seq ?_
      refine xc_block ?_
    refine xc_loopK (ι := Nat) (fun j => j ≤ 4) (fun j => 4 - j) (fun j => [(57, .slice (some ⟨r57, 0, none⟩) 4 4), (58, .int .i64 4), (59, .int .i64 j)]) 0 (Nat.zero_le _) (by repeat (first | exact keep_nil | refine keep_cons rfl ?_)) ?_
    intro j hj
    by_cases hjn : j < 4
    · have hbr := (b4_all j hjn).2
      focus
        refine xc_seq ?_
        refine xc_region ?_
        refine xo_rd (rd_lss rfl rfl) rfl ?_
        refine xo_nil ?_
        refine xq_seq ?_
        refine xc_seq ?_
        refine xc_dec rfl (fun hz1 => ?_) (fun hz1 => (by exfalso; omega))
        refine xc_skip ?_
        refine xq_seq ?_
        refine xc_seq ?_
        refine xc_block ?_
        refine xc_seq ?_
        refine xc_region ?_
        refine xo_rd (rd_indexAddr rfl rfl (by omega) (by omega)) rfl ?_
        refine xo_rd (rd_load1 rfl (bF_cl (r := r57) (T := 3) (by simp) _ (by omega) (by omega))) rfl ?_
        refine xo_rd (rd_assign rfl) rfl ?_
        refine xo_nil ?_
        refine xq_seq ?_
        refine xc_seq ?_
        refine xc_region ?_
        refine xo_rd (rd_move rfl) rfl ?_
        refine xo_rd (rd_move rfl) rfl ?_
        refine xo_ef rfl (ef_call rfl (XF.mono (xf_acts (bF j) hbr) ?_))
        rintro v L' ⟨xs, p, c, N, rfl, hxl, hac, rfl⟩
        refine xo_ef rfl (ef_call rfl (XF.mono (xk_plays _ _ p xs.length c xs rfl ((hac W).mono (by intro z hz; simp [hz])) _) ?_))
        rintro v L' ⟨rfl, rfl⟩
        refine xo_rd (rd_not rfl) rfl ?_
        refine xo_rd (rd_move rfl) rfl ?_
        refine xo_grd rfl rfl (rd_move rfl) rfl ?_
        refine xo_gef rfl rfl rfl (ef_buildL (T := 88) (len := 2) (s := 1) (cells := (ints .u16 [1, 2]).toArray) rfl (by decide) (by decide) (by kernel_rfl) fun r70 => ?_)
        refine xo_gef rfl rfl rfl (ef_call rfl (XF.mono (xk_again _ (some ⟨r70, 0, none⟩) 2 2 [1, 2] rfl (Rs.fresh (vs := ints .u16 [1, 2]) (T := 36) (fr := (0, 0)) (List.Mem.head _))) ?_))
        rintro v L' ⟨rfl, rfl⟩
        refine xo_grd rfl rfl (rd_not rfl) rfl ?_
        refine xo_rd (rd_pickf rfl rfl) rfl ?_
        refine xo_nil ?_
        refine xq_seq ?_
        refine xc_condf rfl ?_
        refine xc_skip ?_
        refine xq_block ?_
        refine xq_seq ?_
        refine xc_region ?_
        refine xo_rd (rd_addn rfl rfl (by omega) (by omega)) rfl ?_
        refine xo_rd (rd_move rfl) rfl ?_
        refine xo_nil ?_
      exact xq_roundK rfl (j + 1) (by omega) (by omega) ((List.sublist_append_right N _).trans (List.sublist_cons_self _ _)) (by repeat (first | exact keep_nil | refine keep_cons rfl ?_))
    · skip
      focus
        refine xc_seq ?_
        refine xc_region ?_
        refine xo_rd (rd_lss rfl rfl) rfl ?_
        refine xo_nil ?_
        refine xq_seq ?_
        refine xc_seq ?_
        refine xc_dec rfl (fun h1 => (by exfalso; omega)) (fun h1 => ?_)
        refine xc_exit ?_
        refine xq_then_exit ?_
        refine xq_then_exit ?_
        refine xq_block_hit ?_
        refine xq_seq ?_
        refine xc_seq ?_
        refine xc_region ?_
        refine xo_ef rfl (ef_call rfl (XF.mono (xf_made true 1 1 (by decide)) ?_))
        rintro v L' ⟨y, rfl, hya, hyo, rfl⟩
        refine xo_ef rfl (ef_call rfl (XF.mono (xf_ClassesNone y (hyo.at0.mono (by intro z hz; simp [hz])) 3) ?_))
        rintro v L' ⟨rfl, rfl⟩
        refine xo_rd (rd_move rfl) rfl ?_
        refine xo_gef rfl rfl rfl (ef_call rfl (XF.mono (xf_works) ?_))
        rintro v L' ⟨rfl, rfl⟩
        refine xo_rd (rd_pickt rfl rfl) rfl ?_
        refine xo_rd (rd_assign rfl) rfl ?_
        refine xo_nil ?_
        refine xq_seq ?_
        refine xc_ret ?_
      exact xq_ret1 (.inl rfl) Try.results7 rfl rfl
end Go.Proofs.Ytpheiklhjelkcaa.X
