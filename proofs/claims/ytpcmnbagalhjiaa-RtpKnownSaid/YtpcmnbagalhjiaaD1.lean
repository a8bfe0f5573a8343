/-
  A packet by a number: a walk of my own.
-/
import Derived.Test.YtpcmnbagalhjiaaB4
namespace Go.Proofs.Ytpcmnbagalhjiaa.X
open Go Go.RowKit
set_option linter.unusedVariables false
set_option linter.unusedSimpArgs false
theorem SlO.rep {e : TypeId} (r m : Nat) (v : Value) : SlO 1 e (.slice (some ⟨r, 0, none⟩) m m) m (List.replicate m v) [(r, .cells (List.replicate m v).toArray e (0, 0))] := .inr ⟨r, _, m, rfl, rfl, Nat.le_refl _, by simp, by simp⟩
theorem ints_rep (k : IntKind) (m : Nat) (x : Int) : ints k (List.replicate m x) = List.replicate m (.int k x) := by simp [ints]
structure ExK where
  k : Nat
  cs : List Int
  pl : List Int
  p1 : Option Addr
  c1 : Nat
  p2 : Option Addr
  c2 : Nat
  l1 : List Blk
  l2 : List Blk
structure ExJ where
  hx : Bool
  pf : Int
  ex : List Int
  v : Value
  l : List Blk
set_option maxHeartbeats 4000000 in
theorem xf_example {W : World} {L : List Blk} (n : Nat) (hn : n ≤ 60) :
    XF Try.prog W 26 #[.int .i64 n] L (fun v L' => ∃ q s1 k1 s2 k2 s3 k3 l1 l2 l3, v = .agg (Pk.enc q (.slice s1 q.cs.length k1) (.slice s2 q.ex.length k2) (.slice s3 q.pl.length k3)).toArray ∧ q.Rg ∧ q.cs.length ≤ 16 ∧ q.ex.length ≤ 12 ∧ q.pl.length ≤ 32 ∧ SlO 1 26 (.slice s1 q.cs.length k1) q.cs.length (ints .u32 q.cs) l1 ∧ SlO 1 5 (.slice s2 q.ex.length k2) q.ex.length (ints .u8 q.ex) l2 ∧ SlO 1 5 (.slice s3 q.pl.length k3) q.pl.length (ints .u8 q.pl) l3 ∧ L' = l2 ++ (l1 ++ (l3 ++ L))) := by
  refine xf_enter (args := [_]) Try.func26 rfl Try.ntmps26 rfl ?_
  obtain ⟨tm, htm⟩ : ∃ t, t = IntKind.u32.wrap ((n : Int) * 2 ^ Int.toNat 20) := ⟨_, rfl⟩
  have htm2 : U4 tm := by rw [htm, wrap32]; unfold U4; omega
  focus
    refine xc_seq ?_
    refine xc_region ?_
    refine xo_ef rfl (ef_alloc fun r2 => ?_)
    refine xo_nil ?_
    refine xq_seq ?_
    refine xc_seq ?_
    refine xc_region ?_
    refine xo_rd (rd_move rfl) rfl ?_
    refine xo_rd (rd_remn rfl rfl (by omega) (by omega)) rfl ?_
    refine xo_rd (rd_eql rfl rfl) rfl ?_
    refine xo_rd (rd_move rfl) rfl ?_
    refine xo_rd (rd_muln rfl rfl (by omega) (by omega)) rfl ?_
    refine xo_rd (rd_remn rfl rfl (by omega) (by omega)) rfl ?_
    refine xo_rd (rd_convn rfl (by omega) (by omega)) rfl ?_
    refine xo_rd (rd_move rfl) rfl ?_
    refine xo_rd (rd_muln rfl rfl (by omega) (by omega)) rfl ?_
    refine xo_rd (rd_convn rfl (by omega) (by omega)) rfl ?_
    refine xo_rd (rd_move rfl) rfl ?_
    refine xo_rd (rd_convn rfl (by omega) (by omega)) rfl ?_
    refine xo_rd (rd_cast (v' := .int .u32 tm) (rd_shl rfl rfl (by decide) (by decide)) (congrArg (Value.int .u32) htm.symm)) rfl ?_
    refine xo_rd (rd_move rfl) rfl ?_
    refine xo_rd (rd_muln rfl rfl (by omega) (by omega)) rfl ?_
    refine xo_rd (rd_convn rfl (by omega) (by omega)) rfl ?_
    refine xo_rd (rd_move rfl) rfl ?_
    refine xo_rd (rd_remn rfl rfl (by omega) (by omega)) rfl ?_
    refine xo_rd (rd_convn rfl (by omega) (by omega)) rfl ?_
    refine xo_rd (rd_build rfl rfl rfl) rfl ?_
    refine xo_ef rfl (ef_alloc fun r3 => ?_)
    refine xo_ef rfl (ef_storeB [] _ rfl rfl (by first | rfl | assumption) rfl rfl rfl ?_)
    refine xo_nil ?_
    refine xq_seq ?_
  obtain ⟨K, hK⟩ : ∃ K, K = n % 17 := ⟨_, rfl⟩
  refine xc_join (ι := ExK) (fun s => s.k ≤ 16 ∧ s.cs.length = s.k ∧ s.pl.length = 2 * s.k ∧ (∀ x, x ∈ s.cs → U4 x) ∧ (∀ x, x ∈ s.pl → By x) ∧ SlO 1 26 (.slice s.p1 s.k s.c1) s.k (ints .u32 s.cs) s.l1 ∧ SlO 1 5 (.slice s.p2 (2 * s.k) s.c2) (2 * s.k) (ints .u8 s.pl) s.l2) (fun s => (r3, .cells #[.bool (decide ((n : Int) % 2 = 1)), .int .u8 ((n : Int) * 7 % 130), .int .u16 ((n : Int) * 1000), .int .u32 tm, .int .u32 ((n : Int) * 77), (.slice s.p1 s.k s.c1), .bool false, .int .u16 0, (.slice none 0 0), (.slice s.p2 (2 * s.k) s.c2), .int .u8 ((n : Int) % 5)] 33 (0, 0)) :: (r2, .cells #[.bool false, .int .u8 0, .int .u16 0, .int .u32 0, .int .u32 0, .slice none 0 0, .bool false, .int .u16 0, .slice none 0 0, .slice none 0 0, .int .u8 0] 33 (0, 0)) :: (s.l1 ++ (s.l2 ++ L))) (fun _ => [(0, .int .i64 n), (2, .pointer (some ⟨r2, 0, none⟩)), (3, .pointer (some ⟨r3, 0, none⟩))]) ?_ ?_
  · focus
      refine xc_seq ?_
      refine xc_region ?_
      refine xo_rd (rd_assign rfl) rfl ?_
      refine xo_nil ?_
      refine xq_seq ?_
      refine xc_block ?_
    refine xc_loopI (ι := ExK) (fun s => s.k ≤ K ∧ s.cs.length = s.k ∧ s.pl.length = 2 * s.k ∧ (∀ x, x ∈ s.cs → U4 x) ∧ (∀ x, x ∈ s.pl → By x) ∧ SlO 1 26 (.slice s.p1 s.k s.c1) s.k (ints .u32 s.cs) s.l1 ∧ SlO 1 5 (.slice s.p2 (2 * s.k) s.c2) (2 * s.k) (ints .u8 s.pl) s.l2) (fun s => K - s.k) (fun s => (r3, .cells #[.bool (decide ((n : Int) % 2 = 1)), .int .u8 ((n : Int) * 7 % 130), .int .u16 ((n : Int) * 1000), .int .u32 tm, .int .u32 ((n : Int) * 77), (.slice s.p1 s.k s.c1), .bool false, .int .u16 0, (.slice none 0 0), (.slice s.p2 (2 * s.k) s.c2), .int .u8 ((n : Int) % 5)] 33 (0, 0)) :: (r2, .cells #[.bool false, .int .u8 0, .int .u16 0, .int .u32 0, .int .u32 0, .slice none 0 0, .bool false, .int .u16 0, .slice none 0 0, .slice none 0 0, .int .u8 0] 33 (0, 0)) :: (s.l1 ++ (s.l2 ++ L))) (fun s => [(0, .int .i64 n), (2, .pointer (some ⟨r2, 0, none⟩)), (3, .pointer (some ⟨r3, 0, none⟩)), (4, .int .i64 s.k)]) ⟨0, [], [], none, 0, none, 0, [], []⟩ ⟨Nat.zero_le _, rfl, rfl, (fun x h => by cases h), (fun x h => by cases h), SlO.nil, SlO.nil⟩ rfl (by repeat (first | exact keep_nil | refine keep_cons rfl ?_)) ?_
    rintro ⟨k, cs, pl, p1, c1, p2, c2, l1, l2⟩ ⟨hk, hcl, hpl, hcs, hps, hO1, hO2⟩
    dsimp only at hk hcl hpl hcs hps hO1 hO2 ⊢
    have hkn : (k : Int) * n ≤ 960 := Int.le_trans (Int.mul_le_mul (show (k : Int) ≤ 16 by omega) (show (n : Int) ≤ 60 by omega) (by omega) (by omega)) (by decide)
    have hkn0 : 0 ≤ (k : Int) * n := Int.mul_nonneg (by omega) (by omega)
    obtain ⟨c, hc⟩ : ∃ c, c = IntKind.u32.wrap ((k : Int) * n * 2 ^ Int.toNat 8) := ⟨_, rfl⟩
    have hcu : U4 c := by rw [hc, wrap32]; unfold U4; omega
    focus
      refine xc_seq ?_
      refine xc_seq ?_
      refine xc_region ?_
      refine xo_rd (rd_move rfl) rfl ?_
      refine xo_rd (rd_move rfl) rfl ?_
      refine xo_rd (rd_remn rfl rfl (by omega) (by omega)) rfl ?_
      refine xo_rd (rd_lss rfl rfl) rfl ?_
      refine xo_nil ?_
      refine xq_seq ?_
      refine xc_dec rfl (fun hi1 => ?_) (fun hi1 => ?_)
      refine xc_skip ?_
      refine xq_seq ?_
      refine xc_seq ?_
      refine xc_block ?_
      refine xc_seq ?_
      refine xc_region ?_
      refine xo_rd (rd_fieldAddr rfl) rfl ?_
      refine xo_rd (rd_load1 rfl (Cl.o0 rfl)) rfl ?_
      refine xo_rd (rd_move rfl) rfl ?_
      refine xo_rd (rd_move rfl) rfl ?_
      refine xo_rd (rd_muln rfl rfl (by omega) (by omega)) rfl ?_
      refine xo_rd (rd_convn rfl (by omega) (by omega)) rfl ?_
      refine xo_rd (rd_cast (v' := .int .u32 c) (rd_shl rfl rfl (by decide) (by decide)) (congrArg (Value.int .u32) hc.symm)) rfl ?_
      refine xo_ef rfl (ef_slice1 rfl rfl rfl fun r38 => ?_)
      refine xo_ef rfl (ef_appendS [_, _, _] (l2 ++ L) l1 (news := [.int .u32 c]) rfl rfl hO1 rfl (Rs.fresh (List.Mem.head _)) rfl rfl (by decide) (by omega) (by omega) fun q' k' l' hO' hck => ?_)
      refine xo_rd (rd_fieldAddr rfl) rfl ?_
      refine xo_ef rfl (ef_store1 [_] _ rfl rfl (by first | rfl | assumption) rfl rfl rfl ?_)
      refine xo_nil ?_
      refine xq_seq ?_
      refine xc_region ?_
      refine xo_rd (rd_fieldAddr rfl) rfl ?_
      refine xo_rd (rd_load1 rfl (Cl.o1 rfl)) rfl ?_
      refine xo_rd (rd_move rfl) rfl ?_
      refine xo_rd (rd_convn rfl (by omega) (by omega)) rfl ?_
      refine xo_rd (rd_move rfl) rfl ?_
      refine xo_rd (rd_convn rfl (by omega) (by omega)) rfl ?_
      rotate_left
      refine xc_exit ?_
      refine xq_then_exit ?_
      refine xq_then_exit ?_
      refine xq_block_hit ?_
      rotate_left
    · refine xo_permT [_, _, _] (seg_perm l' l2 L) ?_
      focus
        refine xo_ef rfl (ef_buildL (T := 22) (len := 2) (s := 1) (cells := (ints .u8 [(k : Int), (n : Int)]).toArray) rfl (by decide) (by decide) (by kernel_rfl) fun r47 => ?_)
        refine xo_ef rfl (ef_appendS [_, _, _, _] (l' ++ L) l2 (news := ints .u8 [(k : Int), (n : Int)]) rfl rfl hO2 rfl (Rs.fresh (List.Mem.head _)) rfl rfl (by decide) (by omega) (by omega) fun q2 k2 l2' hO2' hck2 => ?_)
        refine xo_rd (rd_fieldAddr rfl) rfl ?_
        refine xo_ef rfl (ef_store1 [_, _] _ rfl rfl (by first | rfl | assumption) rfl rfl rfl ?_)
        refine xo_nil ?_
        refine xq_block ?_
        refine xq_seq ?_
        refine xc_region ?_
        refine xo_rd (rd_move rfl) rfl ?_
        refine xo_rd (rd_addn rfl rfl (by omega) (by omega)) rfl ?_
        refine xo_rd (rd_assign rfl) rfl ?_
        refine xo_nil ?_
      refine xq_permT [_, _, _, _] (seg_perm l2' l' L) (xq_sub (List.sublist_append_right [_, _] _) (xq_roundI (⟨k + 1, cs ++ [c], pl ++ [(k : Int), (n : Int)], q', k', q2, k2, l', l2'⟩ : ExK) ⟨by dsimp only; omega, by simp [hcl], by simp [hpl]; omega, ?_, ?_, ?_, ?_⟩ (by dsimp only; omega) rfl (by repeat (first | exact keep_nil | refine keep_cons rfl ?_))))
      · intro x hx
        rcases List.mem_append.1 hx with h | h
        · exact hcs x h
        · rw [List.mem_singleton.1 h]; exact hcu
      · intro x hx
        unfold By
        rcases List.mem_append.1 hx with h | h
        · exact hps x h
        · simp only [List.mem_cons, List.not_mem_nil, or_false] at h
          rcases h with rfl | rfl <;> omega
      · dsimp only; rw [ints_snoc]; exact hO'
      · dsimp only; rw [ints_app]; exact hO2'
    · refine xq_joined (⟨k, cs, pl, p1, c1, p2, c2, l1, l2⟩ : ExK) ⟨by dsimp only; omega, hcl, hpl, hcs, hps, hO1, hO2⟩ rfl (by repeat (first | exact keep_nil | refine keep_cons rfl ?_))
  · rintro ⟨k, cs, pl, p1, c1, p2, c2, l1, l2⟩ ⟨hk, hcl, hpl, hcs, hps, hO1, hO2⟩
    dsimp only at hk hcl hpl hcs hps hO1 hO2 ⊢
    obtain ⟨e7, he7⟩ : ∃ e : Nat, e = n % 7 * 2 := ⟨_, rfl⟩
    focus
      refine xc_seq ?_
      refine xc_seq ?_
      refine xc_region ?_
      refine xo_rd (rd_move rfl) rfl ?_
      refine xo_rd (rd_remn rfl rfl (by omega) (by omega)) rfl ?_
      refine xo_rd (rd_eql rfl rfl) rfl ?_
      refine xo_nil ?_
      refine xq_seq ?_
      refine xc_dec rfl (fun hw1 => ?_) (fun hw1 => ?_)
      refine xc_seq ?_
      refine xc_region ?_
      refine xo_rd (rd_fieldAddr rfl) rfl ?_
      refine xo_ef rfl (ef_store1 [] _ rfl rfl (by first | rfl | assumption) rfl rfl rfl ?_)
      refine xo_nil ?_
      refine xq_seq ?_
      refine xc_seq ?_
      refine xc_region ?_
      refine xo_rd (rd_move rfl) rfl ?_
      refine xo_rd (rd_convn rfl (by omega) (by omega)) rfl ?_
      refine xo_rd (rd_fieldAddr rfl) rfl ?_
      refine xo_ef rfl (ef_store1 [] _ rfl rfl (by first | rfl | assumption) rfl rfl rfl ?_)
      refine xo_nil ?_
      refine xq_seq ?_
      refine xc_region ?_
      refine xo_rd (rd_move rfl) rfl ?_
      refine xo_rd (rd_remn rfl rfl (by omega) (by omega)) rfl ?_
      refine xo_rd (rd_muln rfl rfl (by omega) (by omega)) rfl ?_
      refine xo_ef rfl (ef_makeSlice rfl rfl rfl (by omega) (by omega) (by omega) (by decide) fun r60 => ?_)
      refine xo_rd (rd_fieldAddr rfl) rfl ?_
      refine xo_ef rfl (ef_store1 [_] _ rfl rfl (by first | rfl | assumption) rfl rfl rfl ?_)
      refine xo_nil ?_
      refine xq_seq ?_
      refine xc_seq ?_
      refine xc_region ?_
      refine xo_rd (rd_loadB rfl Kn.o1 (by rfl)) rfl ?_
      refine xo_ef rfl (ef_storeB [_, _] _ rfl rfl (by first | rfl | assumption) rfl rfl rfl ?_)
      refine xo_nil ?_
      refine xq_seq ?_
      refine xc_ret ?_
      rotate_left
      refine xc_skip ?_
      refine xq_seq ?_
      refine xc_seq ?_
      refine xc_region ?_
      refine xo_rd (rd_loadB rfl Kn.o0 (by rfl)) rfl ?_
      refine xo_ef rfl (ef_storeB [_] _ rfl rfl (by first | rfl | assumption) rfl rfl rfl ?_)
      refine xo_nil ?_
      refine xq_seq ?_
      refine xc_ret ?_
      rotate_left
    · have hm1 : ((n : Int) % 7 * 2).toNat = e7 := by omega
      rw [hm1]
      have hO3 : SlO 1 5 (.slice (some ⟨r60, 0, none⟩) (List.replicate e7 (0 : Int)).length e7) (List.replicate e7 (0 : Int)).length (ints .u8 (List.replicate e7 0)) [(r60, .cells (List.replicate e7 (.int .u8 0)).toArray 5 (0, 0))] := by
        rw [ints_rep, List.length_replicate]; exact SlO.rep r60 e7 _
      subst hcl
      refine xq_retB (.inl rfl) Try.results26 rfl Kn.o2 rfl (List.Sublist.cons_cons _ ((List.sublist_cons_self _ _).trans (List.sublist_cons_self _ _))) ⟨⟨decide ((n : Int) % 2 = 1), (n : Int) * 7 % 130, (n : Int) * 1000, tm, (n : Int) * 77, cs, true, n, List.replicate e7 0, pl, (n : Int) % 5⟩, p1, c1, some ⟨r60, 0, none⟩, e7, p2, c2, l1, _, l2, ?_, ⟨?_, ?_, htm2, ?_, hcs, ?_, ?_, hps, ?_⟩, hk, ?_, ?_, hO1, hO3, ?_, rfl⟩
      · dsimp only [Pk.enc]; rw [List.length_replicate, hpl]; rfl
      · unfold By; dsimp only; omega
      · unfold U2; dsimp only; omega
      · unfold U4; dsimp only; omega
      · unfold U2; dsimp only; omega
      · intro x hx; rw [List.eq_of_mem_replicate hx]; exact ⟨by decide, by decide⟩
      · unfold By; dsimp only; omega
      · dsimp only; rw [List.length_replicate]; omega
      · dsimp only; omega
      · dsimp only; rw [hpl]; exact hO2
    · subst hcl
      refine xq_retB (.inl rfl) Try.results26 rfl Kn.o1 rfl ((List.sublist_cons_self _ _).trans (List.sublist_cons_self _ _)) ⟨⟨decide ((n : Int) % 2 = 1), (n : Int) * 7 % 130, (n : Int) * 1000, tm, (n : Int) * 77, cs, false, 0, [], pl, (n : Int) % 5⟩, p1, c1, none, 0, p2, c2, l1, [], l2, ?_, ⟨?_, ?_, htm2, ?_, hcs, ?_, ?_, hps, ?_⟩, hk, ?_, ?_, hO1, SlO.nil, ?_, rfl⟩
      · dsimp only [Pk.enc]; rw [hpl]; rfl
      · unfold By; dsimp only; omega
      · unfold U2; dsimp only; omega
      · unfold U4; dsimp only; omega
      · unfold U2; dsimp only; omega
      · intro x hx; cases hx
      · unfold By; dsimp only; omega
      · exact Nat.zero_le _
      · dsimp only; omega
      · dsimp only; rw [hpl]; exact hO2
end Go.Proofs.Ytpcmnbagalhjiaa.X
