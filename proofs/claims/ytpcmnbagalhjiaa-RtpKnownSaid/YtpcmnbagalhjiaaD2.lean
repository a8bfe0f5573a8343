/-
  RtpKnown: a walk of my own.
-/
import Derived.Test.YtpcmnbagalhjiaaC1
import Derived.Test.YtpcmnbagalhjiaaD1
import Derived.Test.YtpcmnbagalhjiaaX20
namespace Go.Proofs.Ytpcmnbagalhjiaa.X
open Go Go.RowKit
set_option linter.unusedVariables false
set_option linter.unusedSimpArgs false
theorem xf_exampleI {W : World} {L : List Blk} (z : Int) (n : Nat) (hz : z = n) (hn : n ≤ 60) :
    XF Try.prog W 26 #[.int .i64 z] L (fun v L' => ∃ q s1 k1 s2 k2 s3 k3 l1 l2 l3, v = .agg (Pk.enc q (.slice s1 q.cs.length k1) (.slice s2 q.ex.length k2) (.slice s3 q.pl.length k3)).toArray ∧ q.Rg ∧ q.cs.length ≤ 16 ∧ q.ex.length ≤ 12 ∧ q.pl.length ≤ 32 ∧ SlO 1 26 (.slice s1 q.cs.length k1) q.cs.length (ints .u32 q.cs) l1 ∧ SlO 1 5 (.slice s2 q.ex.length k2) q.ex.length (ints .u8 q.ex) l2 ∧ SlO 1 5 (.slice s3 q.pl.length k3) q.pl.length (ints .u8 q.pl) l3 ∧ L' = l2 ++ (l1 ++ (l3 ++ L))) := by
  subst hz; exact xf_example n hn
theorem xf_put3 {W : World} {L : List Blk} (q : Pk) (out : List Int) (e : Int) (he : putR q = (out, e)) (p1 p2 p3 : Option Addr) (m1 m2 m3 c1 c2 c3 : Nat) (e1 : q.cs.length = m1) (e2 : q.ex.length = m2) (e3 : q.pl.length = m3) (h1 : Rs W L p1 (ints .u32 q.cs)) (h2 : Rs W L p2 (ints .u8 q.ex)) (h3 : Rs W L p3 (ints .u8 q.pl)) (hg : q.Rg) (b1 : q.cs.length ≤ 1000000) (b2 : q.ex.length ≤ 1000000) (b3 : q.pl.length ≤ 1000000) :
    XF Try.prog W 19 #[.agg (q.enc (.slice p1 m1 c1) (.slice p2 m2 c2) (.slice p3 m3 c3)).toArray] L (fun v L' => ∃ s k l, v = .tuple #[.slice s out.length k, .int .i64 e] ∧ SlO 1 5 (.slice s out.length k) out.length (ints .u8 out) l ∧ L' = l ++ L) := by
  subst e1; subst e2; subst e3; exact xf_put2 q out e he p1 p2 p3 c1 c2 c3 h1 h2 h3 hg b1 b2 b3
theorem xf_size3 {W : World} {L : List Blk} (q : Pk) (z : Int) (hz : q.size = z) (p1 p2 p3 : Option Addr) (m1 m2 m3 c1 c2 c3 : Nat) (e1 : q.cs.length = m1) (e2 : q.ex.length = m2) (e3 : q.pl.length = m3) (b1 : q.cs.length ≤ 1000000) (b2 : q.ex.length ≤ 1000000) (b3 : q.pl.length ≤ 1000000) (b4 : By q.pd) :
    XF Try.prog W 23 #[.agg (q.enc (.slice p1 m1 c1) (.slice p2 m2 c2) (.slice p3 m3 c3)).toArray] L (fun v L' => v = .int .i64 z ∧ L' = L) := by
  subst e1; subst e2; subst e3; subst hz; exact xf_size q p1 p2 p3 c1 c2 c3 b1 b2 b3 b4
def Pk.ext (ex : List Int) : Pk := ⟨false, 0, 0, 0, 0, [], true, 0, ex, [], 0⟩
theorem Pk.ext_rg {ex : List Int} (h : ∀ x, x ∈ ex → By x) : (Pk.ext ex).Rg := by
  exact ⟨(⟨by decide, by decide⟩ : By 0), (⟨by decide, by decide⟩ : U2 0), (⟨by decide, by decide⟩ : U4 0), (⟨by decide, by decide⟩ : U4 0), fun x h => (by cases h), (⟨by decide, by decide⟩ : U2 0), h, fun x h => (by cases h), (⟨by decide, by decide⟩ : By 0)⟩
structure Od where
  q : Pk
  p1 : Option Addr
  c1 : Nat
  p2 : Option Addr
  c2 : Nat
def Od.enc (x : Od) : List Value := x.q.enc (.slice x.p1 x.q.cs.length x.c1) (.slice x.p2 x.q.ex.length x.c2) (.slice none x.q.pl.length 0)
def odds (r2 r4 r6 r8 : Nat) : List Od := [⟨⟨false, 128, 0, 0, 0, [], false, 0, [], [], 0⟩, none, 0, none, 0⟩, ⟨⟨false, 0, 0, 0, 0, [], false, 1, [], [], 0⟩, none, 0, none, 0⟩, ⟨⟨false, 0, 0, 0, 0, [], false, 0, List.replicate 4 0, [], 0⟩, none, 0, some ⟨r2, 0, none⟩, 4⟩, ⟨⟨false, 0, 0, 0, 0, [], true, 0, List.replicate 2 0, [], 0⟩, none, 0, some ⟨r4, 0, none⟩, 2⟩, ⟨⟨false, 0, 0, 0, 0, List.replicate 16 0, false, 0, [], [], 0⟩, some ⟨r6, 0, none⟩, 16, none, 0⟩, ⟨⟨false, 0, 0, 0, 0, List.replicate 15 0, false, 0, [], [], 255⟩, some ⟨r8, 0, none⟩, 15, none, 0⟩]
structure Od.Ok (W : World) (R : List Blk) (x : Od) : Prop where
  rg : x.q.Rg
  cs : Rs W R x.p1 (ints .u32 x.q.cs)
  ex : Rs W R x.p2 (ints .u8 x.q.ex)
  pl : Rs W R none (ints .u8 x.q.pl)
theorem Od.len (x : Od) : x.enc.length = 11 := rfl
theorem rep_u4 (m : Nat) : ∀ x, x ∈ List.replicate m (0 : Int) → U4 x := fun x hx => by rw [List.eq_of_mem_replicate hx]; exact ⟨by decide, by decide⟩
theorem odds_ok {W : World} {R : List Blk} {r2 r4 r6 r8 : Nat} {e2 e4 e6 e8 : TypeId} (h2 : (r2, Obj.cells (List.replicate 4 (.int .u8 0)).toArray e2 (0, 0)) ∈ R) (h4 : (r4, Obj.cells (List.replicate 2 (.int .u8 0)).toArray e4 (0, 0)) ∈ R) (h6 : (r6, Obj.cells (List.replicate 16 (.int .u32 0)).toArray e6 (0, 0)) ∈ R) (h8 : (r8, Obj.cells (List.replicate 15 (.int .u32 0)).toArray e8 (0, 0)) ∈ R) : ∀ x, x ∈ odds r2 r4 r6 r8 → x.Ok W R := by
  intro x hx
  have b0 : By 0 := ⟨by decide, by decide⟩
  have u2 : U2 0 := ⟨by decide, by decide⟩
  have u4 : U4 0 := ⟨by decide, by decide⟩
  simp only [odds, List.mem_cons, List.not_mem_nil, or_false] at hx
  rcases hx with rfl | rfl | rfl | rfl | rfl | rfl
  · exact ⟨⟨⟨by decide, by decide⟩, u2, u4, u4, fun x h => (by cases h), u2, fun x h => (by cases h), fun x h => (by cases h), b0⟩, Rs.nil, Rs.nil, Rs.nil⟩
  · exact ⟨⟨b0, u2, u4, u4, fun x h => (by cases h), ⟨by decide, by decide⟩, fun x h => (by cases h), fun x h => (by cases h), b0⟩, Rs.nil, Rs.nil, Rs.nil⟩
  · exact ⟨⟨b0, u2, u4, u4, fun x h => (by cases h), u2, rep_by 4, fun x h => (by cases h), b0⟩, Rs.nil, Rs.fresh h2, Rs.nil⟩
  · exact ⟨⟨b0, u2, u4, u4, fun x h => (by cases h), u2, rep_by 2, fun x h => (by cases h), b0⟩, Rs.nil, Rs.fresh h4, Rs.nil⟩
  · exact ⟨⟨b0, u2, u4, u4, rep_u4 16, u2, fun x h => (by cases h), fun x h => (by cases h), b0⟩, Rs.fresh h6, Rs.nil, Rs.nil⟩
  · exact ⟨⟨b0, u2, u4, u4, rep_u4 15, u2, fun x h => (by cases h), fun x h => (by cases h), (⟨by decide, by decide⟩ : By 255)⟩, Rs.fresh h8, Rs.nil, Rs.nil⟩
theorem putR_by (q : Pk) (hg : q.Rg) : ∀ x, x ∈ (putR q).1 → By x := by
  unfold putR
  split
  · exact putL_by q hg (by assumption)
  · intro x h; cases h
set_option maxHeartbeats 8000000 in
theorem xf_RtpKnown {W : World} : XF Try.prog W 6 #[] [] (fun v L' => v = .bool true) := by
  refine xf_enter (args := []) Try.func6 rfl Try.ntmps6 rfl ?_
  focus
    refine xc_seq ?_
    refine xc_region ?_
    refine xo_rd (rd_assign rfl) rfl ?_
    refine xo_nil ?_
    refine xq_seq ?_
  refine xc_join (ι := Unit) (fun _ => True) (fun _ => []) (fun _ => []) ?_ ?_
  · focus
      refine xc_seq ?_
      refine xc_region ?_
      refine xo_rd (rd_assign rfl) rfl ?_
      refine xo_nil ?_
      refine xq_seq ?_
      refine xc_block ?_
    refine xc_loopI (ι := Nat) (fun n => n ≤ 60) (fun n => 60 - n) (fun _ => []) (fun n => [(1, .int .i64 n)]) 0 (Nat.zero_le _) rfl (by repeat (first | exact keep_nil | refine keep_cons rfl ?_)) ?_
    intro n hn
    by_cases h60 : n < 60
    · skip
      focus
        refine xc_seq ?_
        refine xc_seq ?_
        refine xc_region ?_
        refine xo_rd (rd_move rfl) rfl ?_
        refine xo_rd (rd_lss rfl rfl) rfl ?_
        refine xo_nil ?_
        refine xq_seq ?_
        refine xc_dec rfl (fun ha1 => ?_) (fun ha1 => (by exfalso; omega))
        refine xc_skip ?_
        refine xq_seq ?_
        refine xc_seq ?_
        refine xc_block ?_
        refine xc_seq ?_
        refine xc_region ?_
        refine xo_rd (rd_move rfl) rfl ?_
        refine xo_ef rfl (ef_call rfl (XF.mono (xf_example n hn) ?_))
        rintro v L' ⟨q, s1, k1, s2, k2, s3, k3, w1, w2, w3, rfl, hg, b1, b2, b3, hw1, hw2, hw3, rfl⟩
        refine xo_ef rfl (ef_alloc fun r2 => ?_)
        refine xo_ef rfl (ef_storeB [] _ rfl rfl (by first | rfl | assumption) rfl rfl rfl ?_)
        refine xo_nil ?_
        refine xq_seq ?_
      focus
        refine xc_seq ?_
        refine xc_seq ?_
        refine xc_drawM [0, 0, 0, 4, 10, 16, 33, 64, 192, 256, 768, 1280, 2304] [0, 0, 0, 4, 10, 16, 33, 64, 192, 256, 768, 1280, 2304] ([(r2, .cells (q.enc (.slice s1 q.cs.length k1) (.slice s2 q.ex.length k2) (.slice s3 q.pl.length k3)).toArray 33 (0, 0))]) (by kernel_rfl) (by kernel_rfl) (by kernel_rfl) ?_
        refine xm_take 0 (m' := 1) rfl (by kernel_rfl) (by first | exact Sb.refl | exact Sb.nil | (repeat (first | exact Sb.nil | exact Sb.refl | exact Sb.app0 | apply Sb.keep | apply Sb.keepApp | apply Sb.cons | apply Sb.app))) (rd_loadB rfl Kn.o0 (by rfl)) rfl (by kernel_rfl) ?_
        refine xm_take 1 (m' := 3) rfl (by kernel_rfl) (by first | exact Sb.refl | exact Sb.nil | (repeat (first | exact Sb.nil | exact Sb.refl | exact Sb.app0 | apply Sb.keep | apply Sb.keepApp | apply Sb.cons | apply Sb.app))) (rd_move rfl) rfl (by kernel_rfl) ?_
        refine xm_take 2 (m' := 7) rfl (by kernel_rfl) (by first | exact Sb.refl | exact Sb.nil | (repeat (first | exact Sb.nil | exact Sb.refl | exact Sb.app0 | apply Sb.keep | apply Sb.keepApp | apply Sb.cons | apply Sb.app))) (rd_move rfl) rfl (by kernel_rfl) ?_
        refine xm_take 3 (m' := 15) rfl (by kernel_rfl) (by first | exact Sb.refl | exact Sb.nil | (repeat (first | exact Sb.nil | exact Sb.refl | exact Sb.app0 | apply Sb.keep | apply Sb.keepApp | apply Sb.cons | apply Sb.app))) (rd_remn rfl rfl (by omega) (by omega)) rfl (by kernel_rfl) ?_
        refine xm_take 4 (m' := 31) rfl (by kernel_rfl) (by first | exact Sb.refl | exact Sb.nil | (repeat (first | exact Sb.nil | exact Sb.refl | exact Sb.app0 | apply Sb.keep | apply Sb.keepApp | apply Sb.cons | apply Sb.app))) (rd_addn rfl rfl (by omega) (by omega)) rfl (by kernel_rfl) ?_
        refine xm_one 5 (m' := 63) rfl (by kernel_rfl) rfl (by kernel_rfl) (ef_call rfl (XF.mono (xf_exampleI _ (n + n % 2) (by omega) (by omega)) ?_))
        rintro v L' ⟨o, t1, j1, t2, j2, t3, j3, u1, u2, u3, rfl, ho, d1, d2, d3, hu1, hu2, hu3, rfl⟩
        refine ⟨(by first | exact Sb.refl | exact Sb.nil | (repeat (first | exact Sb.nil | exact Sb.refl | exact Sb.app0 | apply Sb.keep | apply Sb.keepApp | apply Sb.cons | apply Sb.app))), ?_⟩
        refine xm_one 6 (m' := 127) rfl (by kernel_rfl) rfl (by kernel_rfl) (ef_call rfl (XF.mono (xf_over fun w hw => xf_RtpPuts q o s1 s2 s3 t1 t2 t3 k1 k2 k3 j1 j2 j3 ((hw1.rs (by intro z hz; simp [hz])).over hw) ((hw2.rs (by intro z hz; simp [hz])).over hw) ((hw3.rs (by intro z hz; simp [hz])).over hw) ((hu1.rs (by intro z hz; simp [hz])).over hw) ((hu2.rs (by intro z hz; simp [hz])).over hw) ((hu3.rs (by intro z hz; simp [hz])).over hw) hg ho) ?_))
        rintro v L' ⟨rfl, rfl⟩
        refine ⟨(by first | exact Sb.refl | exact Sb.nil | (repeat (first | exact Sb.nil | exact Sb.refl | exact Sb.app0 | apply Sb.keep | apply Sb.keepApp | apply Sb.cons | apply Sb.app))), ?_⟩
        refine xm_take 7 (m' := 255) rfl (by kernel_rfl) (by first | exact Sb.refl | exact Sb.nil | (repeat (first | exact Sb.nil | exact Sb.refl | exact Sb.app0 | apply Sb.keep | apply Sb.keepApp | apply Sb.cons | apply Sb.app))) (rd_not rfl) rfl (by kernel_rfl) ?_
        refine xm_take 8 (m' := 511) rfl (by kernel_rfl) (by first | exact Sb.refl | exact Sb.nil | (repeat (first | exact Sb.nil | exact Sb.refl | exact Sb.app0 | apply Sb.keep | apply Sb.keepApp | apply Sb.cons | apply Sb.app))) (rd_move rfl) rfl (by kernel_rfl) ?_
        refine xm_gtake 9 (m' := 1023) rfl (by kernel_rfl) (by first | exact Sb.refl | exact Sb.nil | (repeat (first | exact Sb.nil | exact Sb.refl | exact Sb.app0 | apply Sb.keep | apply Sb.keepApp | apply Sb.cons | apply Sb.app))) rfl rfl (rd_loadB rfl Kn.o0 (by rfl)) rfl (by kernel_rfl) ?_
        refine xm_gone 10 (m' := 2047) rfl (by kernel_rfl) rfl rfl rfl (by kernel_rfl) (ef_call rfl (XF.mono (xf_over fun w hw => xf_RtpBack q s1 s2 s3 k1 k2 k3 none 0 0 [] ((hw1.rs (by intro z hz; simp [hz])).over hw) ((hw2.rs (by intro z hz; simp [hz])).over hw) ((hw3.rs (by intro z hz; simp [hz])).over hw) hg rfl Rs.nil (fun x h => by cases h) (Nat.le_refl _) (Nat.zero_le _)) ?_))
        rintro v L' ⟨rfl, rfl⟩
        refine ⟨(by first | exact Sb.refl | exact Sb.nil | (repeat (first | exact Sb.nil | exact Sb.refl | exact Sb.app0 | apply Sb.keep | apply Sb.keepApp | apply Sb.cons | apply Sb.app))), ?_⟩
        refine xm_gtake 11 (m' := 4095) rfl (by kernel_rfl) (by first | exact Sb.refl | exact Sb.nil | (repeat (first | exact Sb.nil | exact Sb.refl | exact Sb.app0 | apply Sb.keep | apply Sb.keepApp | apply Sb.cons | apply Sb.app))) rfl rfl (rd_not rfl) rfl (by kernel_rfl) ?_
        refine xm_take 12 (m' := 8191) rfl (by kernel_rfl) (by first | exact Sb.refl | exact Sb.nil | (repeat (first | exact Sb.nil | exact Sb.refl | exact Sb.app0 | apply Sb.keep | apply Sb.keepApp | apply Sb.cons | apply Sb.app))) (rd_pickf rfl rfl) rfl (by kernel_rfl) ?_
        refine xm_done (by kernel_rfl) ?_
        refine xq_seq ?_
        refine xc_condf rfl ?_
        refine xc_skip ?_
        refine xq_seq ?_
      refine xc_sub ((List.sublist_append_right _ _).trans ((List.sublist_append_right _ _).trans (List.sublist_append_right _ _))) ?_
      obtain ⟨⟨out, e⟩, hput⟩ : ∃ z, putR q = z := ⟨_, rfl⟩
      have hob := putR_by q hg
      have hol : out.length ≤ 1000000 := by
        have hz : (putR q).1 = out := by rw [hput]
        rw [← hz]
        unfold putR
        split
        · rename_i hR
          have := putL_len q hg.pd.1 hR.2.2.2.2
          have hp := hg.pd.2
          unfold Pk.size at this
          show (putL q).length ≤ 1000000
          split at this <;> omega
        · exact Nat.zero_le _
      rw [hput] at hob
      dsimp only at hob
      focus
        refine xc_seq ?_
        refine xc_region ?_
        refine xo_rd (rd_loadB rfl Kn.o0 (by rfl)) rfl ?_
        refine xo_ef rfl (ef_call rfl (XF.mono (xf_packet2 q s1 s2 s3 k1 k2 k3 (hw1.rs (by intro z hz; simp [hz])) (hw2.rs (by intro z hz; simp [hz])) (hw3.rs (by intro z hz; simp [hz])) (by omega) (by omega) (by omega)) ?_))
        rintro v L' ⟨t1, j1, t2, j2, t3, j3, u1, u2, u3, rfl, hu1, hu2, hu3, rfl⟩
        refine xo_ef rfl (ef_call rfl (XF.mono (xf_rput2 q out e hput t1 t2 t3 j1 j2 j3 (hu1.rs (by intro z hz; simp [hz])) (hu2.rs (by intro z hz; simp [hz])) (hu3.rs (by intro z hz; simp [hz])) hg (by omega) (by omega) (by omega)) ?_))
        rintro v L' ⟨so, ko, lo, rfl, hOo, rfl⟩
        refine xo_rd (rd_move rfl) rfl ?_
        refine xo_rd (rd_extract rfl rfl) rfl ?_
        refine xo_rd (rd_extract rfl rfl) rfl ?_
        refine xo_rd (rd_assign rfl) rfl ?_
        refine xo_rd (rd_assign rfl) rfl ?_
        refine xo_nil ?_
        refine xq_seq ?_
        refine xc_seq ?_
        refine xc_region ?_
        refine xo_rd (rd_assign rfl) rfl ?_
        refine xo_nil ?_
        refine xq_seq ?_
        refine xc_block ?_
      have hkk := hOo.cap.2
      refine xc_sub (L' := lo) (List.sublist_append_left _ _) ?_
      refine xc_loopK (ι := Nat) (fun i => i ≤ out.length + 1) (fun i => out.length + 1 - i) (fun i => [(1, .int .i64 n), (3, .slice so out.length ko), (5, .int .i64 i)]) 0 (Nat.zero_le _) (by repeat (first | exact keep_nil | refine keep_cons rfl ?_)) ?_
      intro i hi
      focus
        refine xc_seq ?_
        refine xc_seq ?_
        refine xc_region ?_
        refine xo_rd (rd_move rfl) rfl ?_
        refine xo_rd (rd_move rfl) rfl ?_
        refine xo_rd (rd_len rfl) rfl ?_
        refine xo_rd (rd_leq rfl rfl) rfl ?_
        refine xo_nil ?_
        refine xq_seq ?_
        refine xc_dec rfl (fun hj1 => ?_) (fun hj1 => ?_)
        refine xc_skip ?_
        refine xq_seq ?_
        refine xc_seq ?_
        refine xc_block ?_
        refine xc_seq ?_
        refine xc_region ?_
        refine xo_rd (rd_move rfl) rfl ?_
        refine xo_ef rfl (ef_call rfl (XF.mono (xf_own so out.length ko (ints .u8 out) (by rw [ints_len, Nat.mul_one]) (hOo.rs (by intro z hz; simp [hz])) (ints_one _ _) (by omega)) ?_))
        rintro v L' ⟨po, co, l, rfl, hOd, hco, rfl⟩
        refine xo_rd (rd_assign rfl) rfl ?_
        refine xo_nil ?_
        refine xq_seq ?_
        rotate_left
        refine xc_exit ?_
        refine xq_then_exit ?_
        refine xq_then_exit ?_
        refine xq_block_hit ?_
        refine xq_block ?_
        refine xq_seq ?_
        refine xc_region ?_
        refine xo_rd (rd_move rfl) rfl ?_
        refine xo_rd (rd_addn rfl rfl (by omega) (by omega)) rfl ?_
        refine xo_rd (rd_assign rfl) rfl ?_
        refine xo_nil ?_
        rotate_left
      · have hlf : ∀ z, z ∈ l → z ∈ l ++ lo := fun z hz => List.mem_append_left _ hz
        refine xc_join (ι := List Int × List Blk) (fun s => s.1.length = out.length ∧ (∀ x, x ∈ s.1 → By x) ∧ SlO 1 5 (.slice po out.length co) out.length (ints .u8 s.1) s.2) (fun s => s.2 ++ lo) (fun _ => [(1, .int .i64 n), (3, .slice so out.length ko), (5, .int .i64 i), (6, .slice po out.length co)]) ?_ ?_
        · by_cases hi2 : i < out.length
          · obtain ⟨b, o', hpo, hc⟩ := (hOd.rs hlf : Rs W (l ++ lo) po (ints .u8 out)).int (i := i) (by omega)
            subst hpo
            generalize hv : out[i] = v at hc
            obtain ⟨sh, hsh⟩ : ∃ z, z = IntKind.u8.wrap (1 * 2 ^ Int.toNat ((n : Int) % 8)) := ⟨_, rfl⟩
            focus
              refine xc_seq ?_
              refine xc_region ?_
              refine xo_rd (rd_move rfl) rfl ?_
              refine xo_rd (rd_move rfl) rfl ?_
              refine xo_rd (rd_len rfl) rfl ?_
              refine xo_rd (rd_lss rfl rfl) rfl ?_
              refine xo_nil ?_
              refine xq_seq ?_
              refine xc_dec rfl (fun h1 => ?_) (fun h1 => (by exfalso; omega))
              refine xc_drawM [0, 0, 0, 0, 12, 16, 0, 64, 128, 288, 1023, 2047] [0, 0, 0, 0, 12, 16, 0, 64, 128, 288, 1023, 2047] [] (by kernel_rfl) (by kernel_rfl) (by kernel_rfl) ?_
              refine xm_take 0 (m' := 1) rfl (by kernel_rfl) (by first | exact Sb.refl | exact Sb.nil | (repeat (first | exact Sb.nil | exact Sb.refl | exact Sb.app0 | apply Sb.keep | apply Sb.keepApp | apply Sb.cons | apply Sb.app))) (rd_move rfl) rfl (by kernel_rfl) ?_
              refine xm_take 1 (m' := 3) rfl (by kernel_rfl) (by first | exact Sb.refl | exact Sb.nil | (repeat (first | exact Sb.nil | exact Sb.refl | exact Sb.app0 | apply Sb.keep | apply Sb.keepApp | apply Sb.cons | apply Sb.app))) (rd_move rfl) rfl (by kernel_rfl) ?_
              refine xm_take 2 (m' := 7) rfl (by kernel_rfl) (by first | exact Sb.refl | exact Sb.nil | (repeat (first | exact Sb.nil | exact Sb.refl | exact Sb.app0 | apply Sb.keep | apply Sb.keepApp | apply Sb.cons | apply Sb.app))) (rd_move rfl) rfl (by kernel_rfl) ?_
              refine xm_take 3 (m' := 15) rfl (by kernel_rfl) (by first | exact Sb.refl | exact Sb.nil | (repeat (first | exact Sb.nil | exact Sb.refl | exact Sb.app0 | apply Sb.keep | apply Sb.keepApp | apply Sb.cons | apply Sb.app))) (rd_move rfl) rfl (by kernel_rfl) ?_
              refine xm_take 4 (m' := 31) rfl (by kernel_rfl) (by first | exact Sb.refl | exact Sb.nil | (repeat (first | exact Sb.nil | exact Sb.refl | exact Sb.app0 | apply Sb.keep | apply Sb.keepApp | apply Sb.cons | apply Sb.app))) (rd_indexAddr rfl rfl (by omega) (by omega)) rfl (by kernel_rfl) ?_
              refine xm_take 6 (m' := 95) rfl (by kernel_rfl) (by first | exact Sb.refl | exact Sb.nil | (repeat (first | exact Sb.nil | exact Sb.refl | exact Sb.app0 | apply Sb.keep | apply Sb.keepApp | apply Sb.cons | apply Sb.app))) (rd_move rfl) rfl (by kernel_rfl) ?_
              refine xm_take 7 (m' := 223) rfl (by kernel_rfl) (by first | exact Sb.refl | exact Sb.nil | (repeat (first | exact Sb.nil | exact Sb.refl | exact Sb.app0 | apply Sb.keep | apply Sb.keepApp | apply Sb.cons | apply Sb.app))) (rd_remn rfl rfl (by omega) (by omega)) rfl (by kernel_rfl) ?_
              refine xm_take 8 (m' := 479) rfl (by kernel_rfl) (by first | exact Sb.refl | exact Sb.nil | (repeat (first | exact Sb.nil | exact Sb.refl | exact Sb.app0 | apply Sb.keep | apply Sb.keepApp | apply Sb.cons | apply Sb.app))) (rd_cast (v' := .int .u8 sh) (rd_shl rfl rfl (by omega) (by simp [IntKind.bits]; omega)) (congrArg (Value.int .u8) hsh.symm)) rfl (by kernel_rfl) ?_
              refine xm_one 5 (m' := 511) rfl (by kernel_rfl) rfl (by kernel_rfl) (ef_rd (rd_load1 rfl hc) ?_)
              refine ⟨(by first | exact Sb.refl | exact Sb.nil | (repeat (first | exact Sb.nil | exact Sb.refl | exact Sb.app0 | apply Sb.keep | apply Sb.keepApp | apply Sb.cons | apply Sb.app))), ?_⟩
              refine xm_take 9 (m' := 1023) rfl (by kernel_rfl) (by first | exact Sb.refl | exact Sb.nil | (repeat (first | exact Sb.nil | exact Sb.refl | exact Sb.app0 | apply Sb.keep | apply Sb.keepApp | apply Sb.cons | apply Sb.app))) (rd_xor rfl rfl) rfl (by kernel_rfl) ?_
              refine xm_take 10 (m' := 2047) rfl (by kernel_rfl) (by first | exact Sb.refl | exact Sb.nil | (repeat (first | exact Sb.nil | exact Sb.refl | exact Sb.app0 | apply Sb.keep | apply Sb.keepApp | apply Sb.cons | apply Sb.app))) (rd_indexAddr rfl rfl (by omega) (by omega)) rfl (by kernel_rfl) ?_
              refine xm_one 11 (m' := 4095) rfl (by kernel_rfl) rfl (by kernel_rfl) (ef_storeElo [] lo (i := i) hOd (by simp [ev, lk, pt]) rfl (by omega) rfl rfl rfl (by decide) rfl fun l' hO' => ?_)
              refine ⟨(by first | exact Sb.refl | exact Sb.nil | (repeat (first | exact Sb.nil | exact Sb.refl | exact Sb.app0 | apply Sb.keep | apply Sb.keepApp | apply Sb.cons | apply Sb.app))), ?_⟩
              refine xm_done (by kernel_rfl) ?_
            refine xq_joined ((out.take i ++ [bits .xor .u8 v sh] ++ out.drop (i + 1), l') : List Int × List Blk) ⟨by simp; omega, ?_, ?_⟩ rfl (by repeat (first | exact keep_nil | refine keep_cons rfl ?_))
            · intro x hx
              rcases List.mem_append.1 hx with hx | hx
              · rcases List.mem_append.1 hx with hx | hx
                · exact hob x (List.mem_of_mem_take hx)
                · rw [List.mem_singleton.1 hx]; exact xor8_by _ _
              · exact hob x (List.mem_of_mem_drop hx)
            · dsimp only
              rw [ints_app, ints_app]
              have := hO'
              rw [Nat.mul_one, Nat.mul_one] at this
              unfold ints at this ⊢
              rw [List.map_take, List.map_drop]
              exact this
          · focus
              refine xc_seq ?_
              refine xc_region ?_
              refine xo_rd (rd_move rfl) rfl ?_
              refine xo_rd (rd_move rfl) rfl ?_
              refine xo_rd (rd_len rfl) rfl ?_
              refine xo_rd (rd_lss rfl rfl) rfl ?_
              refine xo_nil ?_
              refine xq_seq ?_
              refine xc_dec rfl (fun h1 => (by exfalso; omega)) (fun h1 => ?_)
              refine xc_skip ?_
            exact xq_joined ((out, l) : List Int × List Blk) ⟨rfl, hob, hOd⟩ rfl (by repeat (first | exact keep_nil | refine keep_cons rfl ?_))
        · rintro ⟨ys, l'⟩ ⟨hyl, hyb, hOy⟩
          dsimp only at hyl hyb hOy ⊢
          have hlf' : ∀ z, z ∈ l' → z ∈ l' ++ lo := fun z hz => List.mem_append_left _ hz
          have hlo' : ∀ z, z ∈ lo → z ∈ l' ++ lo := fun z hz => List.mem_append_right _ hz
          focus
            refine xc_seq ?_
            refine xc_region ?_
            refine xo_rd (rd_move rfl) rfl ?_
            refine xo_rd (rd_move rfl) rfl ?_
            refine xo_rd (rd_slHi rfl rfl (by omega) (by omega)) rfl ?_
            refine xo_ef rfl (ef_call rfl (XF.mono (xf_over fun w hw => xf_RtpReads so i ko (out.take i) (by simp; omega) (((hOo.rs hlo').ints_take i).over hw) (By.take hob i) (by omega) (by omega)) ?_))
            rintro v L' ⟨rfl, rfl⟩
            refine xo_rd (rd_not rfl) rfl ?_
            refine xo_rd (rd_move rfl) rfl ?_
            refine xo_grd rfl rfl (rd_move rfl) rfl ?_
            refine xo_gef rfl rfl rfl (ef_call rfl (XF.mono (xf_over fun w hw => xf_RtpReads po out.length co ys hyl ((hOy.rs hlf').over hw) hyb hOy.cap.2 (by omega)) ?_))
            rintro v L' ⟨rfl, rfl⟩
            refine xo_grd rfl rfl (rd_not rfl) rfl ?_
            refine xo_rd (rd_pickf rfl rfl) rfl ?_
            refine xo_rd (rd_move rfl) rfl ?_
            refine xo_grd rfl rfl (rd_build rfl rfl rfl) rfl ?_
            refine xo_grd rfl rfl (rd_move rfl) rfl ?_
            refine xo_gef rfl rfl rfl (ef_call rfl (XF.mono (xf_over fun w hw => xf_RtpBack .zero none none none 0 0 0 po out.length co ys Rs.nil Rs.nil Rs.nil Pk.zero_rg hyl ((hOy.rs hlf').over hw) hyb hOy.cap.2 (by omega)) ?_))
            rintro v L' ⟨rfl, rfl⟩
            refine xo_grd rfl rfl (rd_not rfl) rfl ?_
            refine xo_rd (rd_pickf rfl rfl) rfl ?_
            refine xo_nil ?_
            refine xq_seq ?_
            refine xc_condf rfl ?_
            refine xc_skip ?_
            refine xq_block ?_
            refine xq_seq ?_
            refine xc_region ?_
            refine xo_rd (rd_move rfl) rfl ?_
            refine xo_rd (rd_addn rfl rfl (by omega) (by omega)) rfl ?_
            refine xo_rd (rd_assign rfl) rfl ?_
            refine xo_nil ?_
          exact xq_roundK rfl (i + 1) (by omega) (by omega) (List.sublist_append_right _ _) (by repeat (first | exact keep_nil | refine keep_cons rfl ?_))
      · exact xq_sub (List.nil_sublist _) (xq_roundI (n + 1) (by omega) (by omega) rfl (by repeat (first | exact keep_nil | refine keep_cons rfl ?_)))
    · focus
        refine xc_seq ?_
        refine xc_seq ?_
        refine xc_region ?_
        refine xo_rd (rd_move rfl) rfl ?_
        refine xo_rd (rd_lss rfl rfl) rfl ?_
        refine xo_nil ?_
        refine xq_seq ?_
        refine xc_dec rfl (fun ha1 => (by exfalso; omega)) (fun ha1 => ?_)
        refine xc_exit ?_
        refine xq_then_exit ?_
        refine xq_then_exit ?_
        refine xq_block_hit ?_
      exact xq_joined () trivial rfl (by repeat (first | exact keep_nil | refine keep_cons rfl ?_))
  · rintro _ _
    refine xc_seq (xc_region ?_)
    obtain ⟨ea, hea⟩ : ∃ ea : List Int, ea = List.replicate 262140 0 := ⟨_, rfl⟩
    obtain ⟨eb, heb⟩ : ∃ eb : List Int, eb = List.replicate 262144 0 := ⟨_, rfl⟩
    have hla : ea.length = 262140 := by rw [hea, List.length_replicate]
    have hlb : eb.length = 262144 := by rw [heb, List.length_replicate]
    have hya : ∀ x, x ∈ ea → By x := fun x hx => by rw [hea] at hx; rw [List.eq_of_mem_replicate hx]; exact ⟨by decide, by decide⟩
    have hyb : ∀ x, x ∈ eb → By x := fun x hx => by rw [heb] at hx; rw [List.eq_of_mem_replicate hx]; exact ⟨by decide, by decide⟩
    refine xo_ef rfl (ef_makeSlice (v := .int .u8 0) rfl rfl rfl (by decide) (by decide) (by decide) (by decide) fun r81 => ?_)
    refine xo_gen1 fun B81 hB81 => ?_
    have hra : ∀ R, Rs W (B81 :: R) (some ⟨r81, 0, none⟩) (ints .u8 ea) := fun R => by
      rw [hB81, hea, ints_rep]; exact Rs.fresh (List.mem_cons_self ..)
    clear hB81
    have hga := Pk.ext_rg hya
    have hgb := Pk.ext_rg hyb
    have hRa : (Pk.ext ea).Right := ⟨by show (0 : Int) < 128; decide, Nat.zero_le _, by show ea.length % 4 = 0; omega, by show ea.length / 4 ≤ 65535; omega, .inl rfl⟩
    have hRb : ¬ (Pk.ext eb).Right := fun h => by have h4 : eb.length / 4 ≤ 65535 := h.2.2.2.1; omega
    have hpa : putR (.ext ea) = (putL (.ext ea), 0) := by unfold putR; rw [if_pos hRa]
    have hpb : putR (.ext eb) = ([], 2) := by unfold putR; rw [if_neg hRb]
    obtain ⟨oa, hoa⟩ : ∃ o, o = putL (.ext ea) := ⟨_, rfl⟩
    have hob : ∀ x, x ∈ oa → By x := by rw [hoa]; exact putL_by _ hga hRa
    have hps : parseL oa = (0, .ext ea) := by rw [hoa]; exact parse_put _ hga hRa
    have hsz : (Pk.ext ea).size = 262156 := by show 12 + 4 * ((0 : Nat) : Int) + (ea.length : Int) + ((0 : Nat) : Int) + 0 + 4 = 262156; omega
    have hoal : oa.length = 262156 := by
      have := putL_len (.ext ea) (Int.le_refl 0) (.inl rfl)
      rw [← hoa, hsz] at this; omega
    rw [← hoa] at hpa
    focus
      refine xo_rd (rd_build rfl rfl rfl) rfl ?_
      refine xo_ef rfl (ef_alloc fun r7 => ?_)
      refine xo_ef rfl (ef_storeB [] _ rfl rfl (by first | rfl | assumption) rfl rfl rfl ?_)
      refine xo_nil ?_
      refine xq_seq ?_
      refine xc_seq ?_
      refine xc_region ?_
      refine xo_rd (rd_loadB rfl Kn.o0 (by rfl)) rfl ?_
      refine xo_ef rfl (ef_call rfl (XF.mono (xf_put3 (.ext ea) oa 0 hpa none (some ⟨r81, 0, none⟩) none 0 262140 0 0 262140 0 rfl hla rfl Rs.nil ((hra []).mono (by intro z hz; simp [hz])) Rs.nil hga (Nat.zero_le _) (by show ea.length ≤ 1000000; omega) (Nat.zero_le _)) ?_))
      rintro v L' ⟨so, ko, lo, rfl, hOo, rfl⟩
      refine xo_perm List.perm_append_comm ?_
      refine xo_rd (rd_move rfl) rfl ?_
      refine xo_rd (rd_extract rfl rfl) rfl ?_
      refine xo_rd (rd_extract rfl rfl) rfl ?_
      refine xo_rd (rd_assign rfl) rfl ?_
      refine xo_rd (rd_assign rfl) rfl ?_
      refine xo_nil ?_
      refine xq_seq ?_
    refine xc_seq (xc_region ?_)
    refine xo_ef rfl (ef_makeSlice (v := .int .u8 0) rfl rfl rfl (by decide) (by decide) (by decide) (by decide) fun r88 => ?_)
    refine xo_gen1 fun B88 hB88 => ?_
    have hrb : ∀ R, B88 ∈ R → Rs W R (some ⟨r88, 0, none⟩) (ints .u8 eb) := fun R hR => by
      rw [hB88] at hR; rw [heb, ints_rep]; exact Rs.fresh hR
    clear hB88
    focus
      refine xo_rd (rd_build rfl rfl rfl) rfl ?_
      refine xo_ef rfl (ef_alloc fun r10 => ?_)
      refine xo_ef rfl (ef_storeB [] _ rfl rfl (by first | rfl | assumption) rfl rfl rfl ?_)
      refine xo_nil ?_
      refine xq_seq ?_
      refine xc_seq ?_
      refine xc_region ?_
      refine xo_rd (rd_loadB rfl Kn.o0 (by rfl)) rfl ?_
      refine xo_ef rfl (ef_call rfl (XF.mono (xf_put3 (.ext eb) [] 2 hpb none (some ⟨r88, 0, none⟩) none 0 262144 0 0 262144 0 rfl hlb rfl Rs.nil (hrb _ (by simp)) Rs.nil hgb (Nat.zero_le _) (by show eb.length ≤ 1000000; omega) (Nat.zero_le _)) ?_))
      rintro v L' ⟨so2, ko2, lo2, rfl, hOo2, rfl⟩
      refine xo_perm List.perm_append_comm ?_
      refine xo_rd (rd_move rfl) rfl ?_
      refine xo_rd (rd_extract rfl rfl) rfl ?_
      refine xo_rd (rd_extract rfl rfl) rfl ?_
      refine xo_rd (rd_assign rfl) rfl ?_
      refine xo_rd (rd_assign rfl) rfl ?_
      refine xo_nil ?_
      refine xq_seq ?_
      refine xc_seq ?_
      refine xc_region ?_
      refine xo_rd (rd_move rfl) rfl ?_
      refine xo_ef rfl (ef_call rfl (XF.mono (xf_parse2 so oa.length ko oa 0 (.ext ea) hps rfl (hOo.rs (by intro z hz; simp [hz])) hob hOo.cap.2 (by omega)) ?_))
      rintro v L' ⟨s1, k1, s2, k2, s3, k3, w1, w2, w3, rfl, hw1, hw2, hw3, rfl⟩
      refine xo_perm (perm_end4 w1 w2 w3 _) ?_
      refine xo_rd (rd_move rfl) rfl ?_
      refine xo_rd (rd_extract rfl rfl) rfl ?_
      refine xo_rd (rd_extract rfl rfl) rfl ?_
      refine xo_ef rfl (ef_alloc fun r13 => ?_)
      refine xo_ef rfl (ef_storeB [] _ rfl rfl (by first | rfl | assumption) rfl rfl rfl ?_)
      refine xo_rd (rd_assign rfl) rfl ?_
      refine xo_nil ?_
      refine xq_seq ?_
    refine xc_sub (L' := [(r13, .cells (Pk.enc (.ext ea) (.slice s1 (Pk.ext ea).cs.length k1) (.slice s2 (Pk.ext ea).ex.length k2) (.slice s3 (Pk.ext ea).pl.length k3)).toArray 33 (0, 0)), (r7, .cells (Pk.enc (.ext ea) (.slice none 0 0) (.slice (some ⟨r81, 0, none⟩) 262140 262140) (.slice none 0 0)).toArray 33 (0, 0))]) (List.Sublist.cons_cons _ (.cons _ (.cons _ (.cons_cons _ (List.nil_sublist _))))) ?_
    refine xc_join (ι := Nat × List Od × List Blk) (fun s => s.2.1.length = 6 ∧ Rs W s.2.2 (some ⟨s.1, 0, none⟩) (s.2.1.flatMap Od.enc) ∧ ∀ x, x ∈ s.2.1 → x.Ok W s.2.2) (fun s => (r13, .cells (Pk.enc (.ext ea) (.slice s1 (Pk.ext ea).cs.length k1) (.slice s2 (Pk.ext ea).ex.length k2) (.slice s3 (Pk.ext ea).pl.length k3)).toArray 33 (0, 0)) :: (r7, .cells (Pk.enc (.ext ea) (.slice none 0 0) (.slice (some ⟨r81, 0, none⟩) 262140 262140) (.slice none 0 0)).toArray 33 (0, 0)) :: s.2.2) (fun s => [(7, .pointer (some ⟨r7, 0, none⟩)), (9, .int .i64 0), (12, .int .i64 2), (13, .pointer (some ⟨r13, 0, none⟩)), (14, .int .i64 0), (15, .slice (some ⟨s.1, 0, none⟩) 6 6)]) ?_ ?_
    · skip
      focus
        refine xc_drawM [0, 0, 0, 4, 0, 16, 0, 64, 0, 256, 683, 2047] [0, 0, 0, 4, 0, 16, 0, 64, 0, 256, 683, 2047] [] (by kernel_rfl) (by kernel_rfl) (by kernel_rfl) ?_
        refine xm_take 0 (m' := 1) rfl (by kernel_rfl) (by first | exact Sb.refl | exact Sb.nil | (repeat (first | exact Sb.nil | exact Sb.refl | exact Sb.app0 | apply Sb.keep | apply Sb.keepApp | apply Sb.cons | apply Sb.app))) (rd_build rfl rfl rfl) rfl (by kernel_rfl) ?_
        refine xm_take 1 (m' := 3) rfl (by kernel_rfl) (by first | exact Sb.refl | exact Sb.nil | (repeat (first | exact Sb.nil | exact Sb.refl | exact Sb.app0 | apply Sb.keep | apply Sb.keepApp | apply Sb.cons | apply Sb.app))) (rd_build rfl rfl rfl) rfl (by kernel_rfl) ?_
        refine xm_four 2 4 6 8 (mi := 7) (mk := 19) (ml := 67) (mq := 259) rfl rfl rfl rfl (by kernel_rfl) rfl rfl rfl rfl (by kernel_rfl) (by kernel_rfl) (by kernel_rfl) (by kernel_rfl) (ef_makeSlice rfl rfl rfl (by omega) (by omega) (by omega) (by decide) fun r102 => ⟨(by first | exact Sb.refl | exact Sb.nil | (repeat (first | exact Sb.nil | exact Sb.refl | exact Sb.app0 | apply Sb.keep | apply Sb.keepApp | apply Sb.cons | apply Sb.app))), ?_⟩) (ef_makeSlice rfl rfl rfl (by omega) (by omega) (by omega) (by decide) fun r104 => ⟨(by first | exact Sb.refl | exact Sb.nil | (repeat (first | exact Sb.nil | exact Sb.refl | exact Sb.app0 | apply Sb.keep | apply Sb.keepApp | apply Sb.cons | apply Sb.app))), ?_⟩) (ef_makeSlice rfl rfl rfl (by omega) (by omega) (by omega) (by decide) fun r106 => ⟨(by first | exact Sb.refl | exact Sb.nil | (repeat (first | exact Sb.nil | exact Sb.refl | exact Sb.app0 | apply Sb.keep | apply Sb.keepApp | apply Sb.cons | apply Sb.app))), ?_⟩) (ef_makeSlice rfl rfl rfl (by omega) (by omega) (by omega) (by decide) fun r108 => ⟨(by first | exact Sb.refl | exact Sb.nil | (repeat (first | exact Sb.nil | exact Sb.refl | exact Sb.app0 | apply Sb.keep | apply Sb.keepApp | apply Sb.cons | apply Sb.app))), ?_⟩)
        refine xm_take 3 (m' := 15) rfl (by kernel_rfl) (by first | exact Sb.refl | exact Sb.nil | (repeat (first | exact Sb.nil | exact Sb.refl | exact Sb.app0 | apply Sb.keep | apply Sb.keepApp | apply Sb.cons | apply Sb.app))) (rd_build rfl rfl rfl) rfl (by kernel_rfl) ?_
        refine xm_three 4 6 8 (mi := 31) (mk := 79) (ml := 271) rfl rfl rfl (by kernel_rfl) rfl rfl rfl (by kernel_rfl) (by kernel_rfl) (by kernel_rfl) (ef_makeSlice rfl rfl rfl (by omega) (by omega) (by omega) (by decide) fun r104 => ⟨(by first | exact Sb.refl | exact Sb.nil | (repeat (first | exact Sb.nil | exact Sb.refl | exact Sb.app0 | apply Sb.keep | apply Sb.keepApp | apply Sb.cons | apply Sb.app))), ?_⟩) (ef_makeSlice rfl rfl rfl (by omega) (by omega) (by omega) (by decide) fun r106 => ⟨(by first | exact Sb.refl | exact Sb.nil | (repeat (first | exact Sb.nil | exact Sb.refl | exact Sb.app0 | apply Sb.keep | apply Sb.keepApp | apply Sb.cons | apply Sb.app))), ?_⟩) (ef_makeSlice rfl rfl rfl (by omega) (by omega) (by omega) (by decide) fun r108 => ⟨(by first | exact Sb.refl | exact Sb.nil | (repeat (first | exact Sb.nil | exact Sb.refl | exact Sb.app0 | apply Sb.keep | apply Sb.keepApp | apply Sb.cons | apply Sb.app))), ?_⟩)
        refine xm_take 5 (m' := 63) rfl (by kernel_rfl) (by first | exact Sb.refl | exact Sb.nil | (repeat (first | exact Sb.nil | exact Sb.refl | exact Sb.app0 | apply Sb.keep | apply Sb.keepApp | apply Sb.cons | apply Sb.app))) (rd_build rfl rfl rfl) rfl (by kernel_rfl) ?_
        refine xm_two 6 8 (mi := 127) (mk := 319) rfl rfl (by kernel_rfl) rfl rfl (by kernel_rfl) (by kernel_rfl) (ef_makeSlice rfl rfl rfl (by omega) (by omega) (by omega) (by decide) fun r106 => ⟨(by first | exact Sb.refl | exact Sb.nil | (repeat (first | exact Sb.nil | exact Sb.refl | exact Sb.app0 | apply Sb.keep | apply Sb.keepApp | apply Sb.cons | apply Sb.app))), ?_⟩) (ef_makeSlice rfl rfl rfl (by omega) (by omega) (by omega) (by decide) fun r108 => ⟨(by first | exact Sb.refl | exact Sb.nil | (repeat (first | exact Sb.nil | exact Sb.refl | exact Sb.app0 | apply Sb.keep | apply Sb.keepApp | apply Sb.cons | apply Sb.app))), ?_⟩)
        refine xm_take 7 (m' := 255) rfl (by kernel_rfl) (by first | exact Sb.refl | exact Sb.nil | (repeat (first | exact Sb.nil | exact Sb.refl | exact Sb.app0 | apply Sb.keep | apply Sb.keepApp | apply Sb.cons | apply Sb.app))) (rd_build rfl rfl rfl) rfl (by kernel_rfl) ?_
        refine xm_one 8 (m' := 511) rfl (by kernel_rfl) rfl (by kernel_rfl) (ef_makeSlice rfl rfl rfl (by omega) (by omega) (by omega) (by decide) fun r108 => ?_)
        refine ⟨(by first | exact Sb.refl | exact Sb.nil | (repeat (first | exact Sb.nil | exact Sb.refl | exact Sb.app0 | apply Sb.keep | apply Sb.keepApp | apply Sb.cons | apply Sb.app))), ?_⟩
        refine xm_take 9 (m' := 1023) rfl (by kernel_rfl) (by first | exact Sb.refl | exact Sb.nil | (repeat (first | exact Sb.nil | exact Sb.refl | exact Sb.app0 | apply Sb.keep | apply Sb.keepApp | apply Sb.cons | apply Sb.app))) (rd_build rfl rfl rfl) rfl (by kernel_rfl) ?_
        refine xm_one 10 (m' := 2047) rfl (by kernel_rfl) rfl (by kernel_rfl) (ef_buildL (T := 52) (len := 6) (s := 11) (cells := ((odds r102 r104 r106 r108).flatMap Od.enc).toArray) rfl (by decide) (by decide) (by kernel_rfl) fun r110 => ?_)
        refine ⟨(by first | exact Sb.refl | exact Sb.nil | (repeat (first | exact Sb.nil | exact Sb.refl | exact Sb.app0 | apply Sb.keep | apply Sb.keepApp | apply Sb.cons | apply Sb.app))), ?_⟩
        refine xm_take 11 (m' := 4095) rfl (by kernel_rfl) (by first | exact Sb.refl | exact Sb.nil | (repeat (first | exact Sb.nil | exact Sb.refl | exact Sb.app0 | apply Sb.keep | apply Sb.keepApp | apply Sb.cons | apply Sb.app))) (rd_assign rfl) rfl (by kernel_rfl) ?_
        refine xm_done (by kernel_rfl) ?_
        rotate_left
        refine xm_take 9 (m' := 831) rfl (by kernel_rfl) (by first | exact Sb.refl | exact Sb.nil | (repeat (first | exact Sb.nil | exact Sb.refl | exact Sb.app0 | apply Sb.keep | apply Sb.keepApp | apply Sb.cons | apply Sb.app))) (rd_build rfl rfl rfl) rfl (by kernel_rfl) ?_
        refine xm_one 6 (m' := 895) rfl (by kernel_rfl) rfl (by kernel_rfl) (ef_makeSlice rfl rfl rfl (by omega) (by omega) (by omega) (by decide) fun r106 => ?_)
        refine ⟨(by first | exact Sb.refl | exact Sb.nil | (repeat (first | exact Sb.nil | exact Sb.refl | exact Sb.app0 | apply Sb.keep | apply Sb.keepApp | apply Sb.cons | apply Sb.app))), ?_⟩
        refine xm_take 7 (m' := 1023) rfl (by kernel_rfl) (by first | exact Sb.refl | exact Sb.nil | (repeat (first | exact Sb.nil | exact Sb.refl | exact Sb.app0 | apply Sb.keep | apply Sb.keepApp | apply Sb.cons | apply Sb.app))) (rd_build rfl rfl rfl) rfl (by kernel_rfl) ?_
        refine xm_one 10 (m' := 2047) rfl (by kernel_rfl) rfl (by kernel_rfl) (ef_buildL (T := 52) (len := 6) (s := 11) (cells := ((odds r102 r104 r106 r108).flatMap Od.enc).toArray) rfl (by decide) (by decide) (by kernel_rfl) fun r110 => ?_)
        refine ⟨(by first | exact Sb.refl | exact Sb.nil | (repeat (first | exact Sb.nil | exact Sb.refl | exact Sb.app0 | apply Sb.keep | apply Sb.keepApp | apply Sb.cons | apply Sb.app))), ?_⟩
        refine xm_take 11 (m' := 4095) rfl (by kernel_rfl) (by first | exact Sb.refl | exact Sb.nil | (repeat (first | exact Sb.nil | exact Sb.refl | exact Sb.app0 | apply Sb.keep | apply Sb.keepApp | apply Sb.cons | apply Sb.app))) (rd_assign rfl) rfl (by kernel_rfl) ?_
        refine xm_done (by kernel_rfl) ?_
        rotate_left
        refine xm_take 7 (m' := 207) rfl (by kernel_rfl) (by first | exact Sb.refl | exact Sb.nil | (repeat (first | exact Sb.nil | exact Sb.refl | exact Sb.app0 | apply Sb.keep | apply Sb.keepApp | apply Sb.cons | apply Sb.app))) (rd_build rfl rfl rfl) rfl (by kernel_rfl) ?_
        refine xm_two 4 8 (mi := 223) (mk := 463) rfl rfl (by kernel_rfl) rfl rfl (by kernel_rfl) (by kernel_rfl) (ef_makeSlice rfl rfl rfl (by omega) (by omega) (by omega) (by decide) fun r104 => ⟨(by first | exact Sb.refl | exact Sb.nil | (repeat (first | exact Sb.nil | exact Sb.refl | exact Sb.app0 | apply Sb.keep | apply Sb.keepApp | apply Sb.cons | apply Sb.app))), ?_⟩) (ef_makeSlice rfl rfl rfl (by omega) (by omega) (by omega) (by decide) fun r108 => ⟨(by first | exact Sb.refl | exact Sb.nil | (repeat (first | exact Sb.nil | exact Sb.refl | exact Sb.app0 | apply Sb.keep | apply Sb.keepApp | apply Sb.cons | apply Sb.app))), ?_⟩)
        refine xm_take 5 (m' := 255) rfl (by kernel_rfl) (by first | exact Sb.refl | exact Sb.nil | (repeat (first | exact Sb.nil | exact Sb.refl | exact Sb.app0 | apply Sb.keep | apply Sb.keepApp | apply Sb.cons | apply Sb.app))) (rd_build rfl rfl rfl) rfl (by kernel_rfl) ?_
        refine xm_one 8 (m' := 511) rfl (by kernel_rfl) rfl (by kernel_rfl) (ef_makeSlice rfl rfl rfl (by omega) (by omega) (by omega) (by decide) fun r108 => ?_)
        refine ⟨(by first | exact Sb.refl | exact Sb.nil | (repeat (first | exact Sb.nil | exact Sb.refl | exact Sb.app0 | apply Sb.keep | apply Sb.keepApp | apply Sb.cons | apply Sb.app))), ?_⟩
        refine xm_take 9 (m' := 1023) rfl (by kernel_rfl) (by first | exact Sb.refl | exact Sb.nil | (repeat (first | exact Sb.nil | exact Sb.refl | exact Sb.app0 | apply Sb.keep | apply Sb.keepApp | apply Sb.cons | apply Sb.app))) (rd_build rfl rfl rfl) rfl (by kernel_rfl) ?_
        refine xm_one 10 (m' := 2047) rfl (by kernel_rfl) rfl (by kernel_rfl) (ef_buildL (T := 52) (len := 6) (s := 11) (cells := ((odds r102 r104 r106 r108).flatMap Od.enc).toArray) rfl (by decide) (by decide) (by kernel_rfl) fun r110 => ?_)
        refine ⟨(by first | exact Sb.refl | exact Sb.nil | (repeat (first | exact Sb.nil | exact Sb.refl | exact Sb.app0 | apply Sb.keep | apply Sb.keepApp | apply Sb.cons | apply Sb.app))), ?_⟩
        refine xm_take 11 (m' := 4095) rfl (by kernel_rfl) (by first | exact Sb.refl | exact Sb.nil | (repeat (first | exact Sb.nil | exact Sb.refl | exact Sb.app0 | apply Sb.keep | apply Sb.keepApp | apply Sb.cons | apply Sb.app))) (rd_assign rfl) rfl (by kernel_rfl) ?_
        refine xm_done (by kernel_rfl) ?_
        rotate_left
        refine xm_take 9 (m' := 975) rfl (by kernel_rfl) (by first | exact Sb.refl | exact Sb.nil | (repeat (first | exact Sb.nil | exact Sb.refl | exact Sb.app0 | apply Sb.keep | apply Sb.keepApp | apply Sb.cons | apply Sb.app))) (rd_build rfl rfl rfl) rfl (by kernel_rfl) ?_
        refine xm_one 4 (m' := 991) rfl (by kernel_rfl) rfl (by kernel_rfl) (ef_makeSlice rfl rfl rfl (by omega) (by omega) (by omega) (by decide) fun r104 => ?_)
        refine ⟨(by first | exact Sb.refl | exact Sb.nil | (repeat (first | exact Sb.nil | exact Sb.refl | exact Sb.app0 | apply Sb.keep | apply Sb.keepApp | apply Sb.cons | apply Sb.app))), ?_⟩
        refine xm_take 5 (m' := 1023) rfl (by kernel_rfl) (by first | exact Sb.refl | exact Sb.nil | (repeat (first | exact Sb.nil | exact Sb.refl | exact Sb.app0 | apply Sb.keep | apply Sb.keepApp | apply Sb.cons | apply Sb.app))) (rd_build rfl rfl rfl) rfl (by kernel_rfl) ?_
        refine xm_one 10 (m' := 2047) rfl (by kernel_rfl) rfl (by kernel_rfl) (ef_buildL (T := 52) (len := 6) (s := 11) (cells := ((odds r102 r104 r106 r108).flatMap Od.enc).toArray) rfl (by decide) (by decide) (by kernel_rfl) fun r110 => ?_)
        refine ⟨(by first | exact Sb.refl | exact Sb.nil | (repeat (first | exact Sb.nil | exact Sb.refl | exact Sb.app0 | apply Sb.keep | apply Sb.keepApp | apply Sb.cons | apply Sb.app))), ?_⟩
        refine xm_take 11 (m' := 4095) rfl (by kernel_rfl) (by first | exact Sb.refl | exact Sb.nil | (repeat (first | exact Sb.nil | exact Sb.refl | exact Sb.app0 | apply Sb.keep | apply Sb.keepApp | apply Sb.cons | apply Sb.app))) (rd_assign rfl) rfl (by kernel_rfl) ?_
        refine xm_done (by kernel_rfl) ?_
        rotate_left
        refine xm_take 9 (m' := 783) rfl (by kernel_rfl) (by first | exact Sb.refl | exact Sb.nil | (repeat (first | exact Sb.nil | exact Sb.refl | exact Sb.app0 | apply Sb.keep | apply Sb.keepApp | apply Sb.cons | apply Sb.app))) (rd_build rfl rfl rfl) rfl (by kernel_rfl) ?_
        refine xm_two 4 6 (mi := 799) (mk := 847) rfl rfl (by kernel_rfl) rfl rfl (by kernel_rfl) (by kernel_rfl) (ef_makeSlice rfl rfl rfl (by omega) (by omega) (by omega) (by decide) fun r104 => ⟨(by first | exact Sb.refl | exact Sb.nil | (repeat (first | exact Sb.nil | exact Sb.refl | exact Sb.app0 | apply Sb.keep | apply Sb.keepApp | apply Sb.cons | apply Sb.app))), ?_⟩) (ef_makeSlice rfl rfl rfl (by omega) (by omega) (by omega) (by decide) fun r106 => ⟨(by first | exact Sb.refl | exact Sb.nil | (repeat (first | exact Sb.nil | exact Sb.refl | exact Sb.app0 | apply Sb.keep | apply Sb.keepApp | apply Sb.cons | apply Sb.app))), ?_⟩)
        refine xm_take 5 (m' := 831) rfl (by kernel_rfl) (by first | exact Sb.refl | exact Sb.nil | (repeat (first | exact Sb.nil | exact Sb.refl | exact Sb.app0 | apply Sb.keep | apply Sb.keepApp | apply Sb.cons | apply Sb.app))) (rd_build rfl rfl rfl) rfl (by kernel_rfl) ?_
        refine xm_one 6 (m' := 895) rfl (by kernel_rfl) rfl (by kernel_rfl) (ef_makeSlice rfl rfl rfl (by omega) (by omega) (by omega) (by decide) fun r106 => ?_)
        refine ⟨(by first | exact Sb.refl | exact Sb.nil | (repeat (first | exact Sb.nil | exact Sb.refl | exact Sb.app0 | apply Sb.keep | apply Sb.keepApp | apply Sb.cons | apply Sb.app))), ?_⟩
        refine xm_take 7 (m' := 1023) rfl (by kernel_rfl) (by first | exact Sb.refl | exact Sb.nil | (repeat (first | exact Sb.nil | exact Sb.refl | exact Sb.app0 | apply Sb.keep | apply Sb.keepApp | apply Sb.cons | apply Sb.app))) (rd_build rfl rfl rfl) rfl (by kernel_rfl) ?_
        refine xm_one 10 (m' := 2047) rfl (by kernel_rfl) rfl (by kernel_rfl) (ef_buildL (T := 52) (len := 6) (s := 11) (cells := ((odds r102 r104 r106 r108).flatMap Od.enc).toArray) rfl (by decide) (by decide) (by kernel_rfl) fun r110 => ?_)
        refine ⟨(by first | exact Sb.refl | exact Sb.nil | (repeat (first | exact Sb.nil | exact Sb.refl | exact Sb.app0 | apply Sb.keep | apply Sb.keepApp | apply Sb.cons | apply Sb.app))), ?_⟩
        refine xm_take 11 (m' := 4095) rfl (by kernel_rfl) (by first | exact Sb.refl | exact Sb.nil | (repeat (first | exact Sb.nil | exact Sb.refl | exact Sb.app0 | apply Sb.keep | apply Sb.keepApp | apply Sb.cons | apply Sb.app))) (rd_assign rfl) rfl (by kernel_rfl) ?_
        refine xm_done (by kernel_rfl) ?_
        rotate_left
        refine xm_take 7 (m' := 975) rfl (by kernel_rfl) (by first | exact Sb.refl | exact Sb.nil | (repeat (first | exact Sb.nil | exact Sb.refl | exact Sb.app0 | apply Sb.keep | apply Sb.keepApp | apply Sb.cons | apply Sb.app))) (rd_build rfl rfl rfl) rfl (by kernel_rfl) ?_
        refine xm_one 4 (m' := 991) rfl (by kernel_rfl) rfl (by kernel_rfl) (ef_makeSlice rfl rfl rfl (by omega) (by omega) (by omega) (by decide) fun r104 => ?_)
        refine ⟨(by first | exact Sb.refl | exact Sb.nil | (repeat (first | exact Sb.nil | exact Sb.refl | exact Sb.app0 | apply Sb.keep | apply Sb.keepApp | apply Sb.cons | apply Sb.app))), ?_⟩
        refine xm_take 5 (m' := 1023) rfl (by kernel_rfl) (by first | exact Sb.refl | exact Sb.nil | (repeat (first | exact Sb.nil | exact Sb.refl | exact Sb.app0 | apply Sb.keep | apply Sb.keepApp | apply Sb.cons | apply Sb.app))) (rd_build rfl rfl rfl) rfl (by kernel_rfl) ?_
        refine xm_one 10 (m' := 2047) rfl (by kernel_rfl) rfl (by kernel_rfl) (ef_buildL (T := 52) (len := 6) (s := 11) (cells := ((odds r102 r104 r106 r108).flatMap Od.enc).toArray) rfl (by decide) (by decide) (by kernel_rfl) fun r110 => ?_)
        refine ⟨(by first | exact Sb.refl | exact Sb.nil | (repeat (first | exact Sb.nil | exact Sb.refl | exact Sb.app0 | apply Sb.keep | apply Sb.keepApp | apply Sb.cons | apply Sb.app))), ?_⟩
        refine xm_take 11 (m' := 4095) rfl (by kernel_rfl) (by first | exact Sb.refl | exact Sb.nil | (repeat (first | exact Sb.nil | exact Sb.refl | exact Sb.app0 | apply Sb.keep | apply Sb.keepApp | apply Sb.cons | apply Sb.app))) (rd_assign rfl) rfl (by kernel_rfl) ?_
        refine xm_done (by kernel_rfl) ?_
        rotate_left
        refine xm_take 5 (m' := 51) rfl (by kernel_rfl) (by first | exact Sb.refl | exact Sb.nil | (repeat (first | exact Sb.nil | exact Sb.refl | exact Sb.app0 | apply Sb.keep | apply Sb.keepApp | apply Sb.cons | apply Sb.app))) (rd_build rfl rfl rfl) rfl (by kernel_rfl) ?_
        refine xm_three 2 6 8 (mi := 55) (mk := 115) (ml := 307) rfl rfl rfl (by kernel_rfl) rfl rfl rfl (by kernel_rfl) (by kernel_rfl) (by kernel_rfl) (ef_makeSlice rfl rfl rfl (by omega) (by omega) (by omega) (by decide) fun r102 => ⟨(by first | exact Sb.refl | exact Sb.nil | (repeat (first | exact Sb.nil | exact Sb.refl | exact Sb.app0 | apply Sb.keep | apply Sb.keepApp | apply Sb.cons | apply Sb.app))), ?_⟩) (ef_makeSlice rfl rfl rfl (by omega) (by omega) (by omega) (by decide) fun r106 => ⟨(by first | exact Sb.refl | exact Sb.nil | (repeat (first | exact Sb.nil | exact Sb.refl | exact Sb.app0 | apply Sb.keep | apply Sb.keepApp | apply Sb.cons | apply Sb.app))), ?_⟩) (ef_makeSlice rfl rfl rfl (by omega) (by omega) (by omega) (by decide) fun r108 => ⟨(by first | exact Sb.refl | exact Sb.nil | (repeat (first | exact Sb.nil | exact Sb.refl | exact Sb.app0 | apply Sb.keep | apply Sb.keepApp | apply Sb.cons | apply Sb.app))), ?_⟩)
        refine xm_take 3 (m' := 63) rfl (by kernel_rfl) (by first | exact Sb.refl | exact Sb.nil | (repeat (first | exact Sb.nil | exact Sb.refl | exact Sb.app0 | apply Sb.keep | apply Sb.keepApp | apply Sb.cons | apply Sb.app))) (rd_build rfl rfl rfl) rfl (by kernel_rfl) ?_
        refine xm_two 6 8 (mi := 127) (mk := 319) rfl rfl (by kernel_rfl) rfl rfl (by kernel_rfl) (by kernel_rfl) (ef_makeSlice rfl rfl rfl (by omega) (by omega) (by omega) (by decide) fun r106 => ⟨(by first | exact Sb.refl | exact Sb.nil | (repeat (first | exact Sb.nil | exact Sb.refl | exact Sb.app0 | apply Sb.keep | apply Sb.keepApp | apply Sb.cons | apply Sb.app))), ?_⟩) (ef_makeSlice rfl rfl rfl (by omega) (by omega) (by omega) (by decide) fun r108 => ⟨(by first | exact Sb.refl | exact Sb.nil | (repeat (first | exact Sb.nil | exact Sb.refl | exact Sb.app0 | apply Sb.keep | apply Sb.keepApp | apply Sb.cons | apply Sb.app))), ?_⟩)
        refine xm_take 7 (m' := 255) rfl (by kernel_rfl) (by first | exact Sb.refl | exact Sb.nil | (repeat (first | exact Sb.nil | exact Sb.refl | exact Sb.app0 | apply Sb.keep | apply Sb.keepApp | apply Sb.cons | apply Sb.app))) (rd_build rfl rfl rfl) rfl (by kernel_rfl) ?_
        refine xm_one 8 (m' := 511) rfl (by kernel_rfl) rfl (by kernel_rfl) (ef_makeSlice rfl rfl rfl (by omega) (by omega) (by omega) (by decide) fun r108 => ?_)
        refine ⟨(by first | exact Sb.refl | exact Sb.nil | (repeat (first | exact Sb.nil | exact Sb.refl | exact Sb.app0 | apply Sb.keep | apply Sb.keepApp | apply Sb.cons | apply Sb.app))), ?_⟩
        refine xm_take 9 (m' := 1023) rfl (by kernel_rfl) (by first | exact Sb.refl | exact Sb.nil | (repeat (first | exact Sb.nil | exact Sb.refl | exact Sb.app0 | apply Sb.keep | apply Sb.keepApp | apply Sb.cons | apply Sb.app))) (rd_build rfl rfl rfl) rfl (by kernel_rfl) ?_
        refine xm_one 10 (m' := 2047) rfl (by kernel_rfl) rfl (by kernel_rfl) (ef_buildL (T := 52) (len := 6) (s := 11) (cells := ((odds r102 r104 r106 r108).flatMap Od.enc).toArray) rfl (by decide) (by decide) (by kernel_rfl) fun r110 => ?_)
        refine ⟨(by first | exact Sb.refl | exact Sb.nil | (repeat (first | exact Sb.nil | exact Sb.refl | exact Sb.app0 | apply Sb.keep | apply Sb.keepApp | apply Sb.cons | apply Sb.app))), ?_⟩
        refine xm_take 11 (m' := 4095) rfl (by kernel_rfl) (by first | exact Sb.refl | exact Sb.nil | (repeat (first | exact Sb.nil | exact Sb.refl | exact Sb.app0 | apply Sb.keep | apply Sb.keepApp | apply Sb.cons | apply Sb.app))) (rd_assign rfl) rfl (by kernel_rfl) ?_
        refine xm_done (by kernel_rfl) ?_
        rotate_left
        refine xm_take 9 (m' := 831) rfl (by kernel_rfl) (by first | exact Sb.refl | exact Sb.nil | (repeat (first | exact Sb.nil | exact Sb.refl | exact Sb.app0 | apply Sb.keep | apply Sb.keepApp | apply Sb.cons | apply Sb.app))) (rd_build rfl rfl rfl) rfl (by kernel_rfl) ?_
        refine xm_one 6 (m' := 895) rfl (by kernel_rfl) rfl (by kernel_rfl) (ef_makeSlice rfl rfl rfl (by omega) (by omega) (by omega) (by decide) fun r106 => ?_)
        refine ⟨(by first | exact Sb.refl | exact Sb.nil | (repeat (first | exact Sb.nil | exact Sb.refl | exact Sb.app0 | apply Sb.keep | apply Sb.keepApp | apply Sb.cons | apply Sb.app))), ?_⟩
        refine xm_take 7 (m' := 1023) rfl (by kernel_rfl) (by first | exact Sb.refl | exact Sb.nil | (repeat (first | exact Sb.nil | exact Sb.refl | exact Sb.app0 | apply Sb.keep | apply Sb.keepApp | apply Sb.cons | apply Sb.app))) (rd_build rfl rfl rfl) rfl (by kernel_rfl) ?_
        refine xm_one 10 (m' := 2047) rfl (by kernel_rfl) rfl (by kernel_rfl) (ef_buildL (T := 52) (len := 6) (s := 11) (cells := ((odds r102 r104 r106 r108).flatMap Od.enc).toArray) rfl (by decide) (by decide) (by kernel_rfl) fun r110 => ?_)
        refine ⟨(by first | exact Sb.refl | exact Sb.nil | (repeat (first | exact Sb.nil | exact Sb.refl | exact Sb.app0 | apply Sb.keep | apply Sb.keepApp | apply Sb.cons | apply Sb.app))), ?_⟩
        refine xm_take 11 (m' := 4095) rfl (by kernel_rfl) (by first | exact Sb.refl | exact Sb.nil | (repeat (first | exact Sb.nil | exact Sb.refl | exact Sb.app0 | apply Sb.keep | apply Sb.keepApp | apply Sb.cons | apply Sb.app))) (rd_assign rfl) rfl (by kernel_rfl) ?_
        refine xm_done (by kernel_rfl) ?_
        rotate_left
        refine xm_take 7 (m' := 243) rfl (by kernel_rfl) (by first | exact Sb.refl | exact Sb.nil | (repeat (first | exact Sb.nil | exact Sb.refl | exact Sb.app0 | apply Sb.keep | apply Sb.keepApp | apply Sb.cons | apply Sb.app))) (rd_build rfl rfl rfl) rfl (by kernel_rfl) ?_
        refine xm_two 2 8 (mi := 247) (mk := 499) rfl rfl (by kernel_rfl) rfl rfl (by kernel_rfl) (by kernel_rfl) (ef_makeSlice rfl rfl rfl (by omega) (by omega) (by omega) (by decide) fun r102 => ⟨(by first | exact Sb.refl | exact Sb.nil | (repeat (first | exact Sb.nil | exact Sb.refl | exact Sb.app0 | apply Sb.keep | apply Sb.keepApp | apply Sb.cons | apply Sb.app))), ?_⟩) (ef_makeSlice rfl rfl rfl (by omega) (by omega) (by omega) (by decide) fun r108 => ⟨(by first | exact Sb.refl | exact Sb.nil | (repeat (first | exact Sb.nil | exact Sb.refl | exact Sb.app0 | apply Sb.keep | apply Sb.keepApp | apply Sb.cons | apply Sb.app))), ?_⟩)
        refine xm_take 3 (m' := 255) rfl (by kernel_rfl) (by first | exact Sb.refl | exact Sb.nil | (repeat (first | exact Sb.nil | exact Sb.refl | exact Sb.app0 | apply Sb.keep | apply Sb.keepApp | apply Sb.cons | apply Sb.app))) (rd_build rfl rfl rfl) rfl (by kernel_rfl) ?_
        refine xm_one 8 (m' := 511) rfl (by kernel_rfl) rfl (by kernel_rfl) (ef_makeSlice rfl rfl rfl (by omega) (by omega) (by omega) (by decide) fun r108 => ?_)
        refine ⟨(by first | exact Sb.refl | exact Sb.nil | (repeat (first | exact Sb.nil | exact Sb.refl | exact Sb.app0 | apply Sb.keep | apply Sb.keepApp | apply Sb.cons | apply Sb.app))), ?_⟩
        refine xm_take 9 (m' := 1023) rfl (by kernel_rfl) (by first | exact Sb.refl | exact Sb.nil | (repeat (first | exact Sb.nil | exact Sb.refl | exact Sb.app0 | apply Sb.keep | apply Sb.keepApp | apply Sb.cons | apply Sb.app))) (rd_build rfl rfl rfl) rfl (by kernel_rfl) ?_
        refine xm_one 10 (m' := 2047) rfl (by kernel_rfl) rfl (by kernel_rfl) (ef_buildL (T := 52) (len := 6) (s := 11) (cells := ((odds r102 r104 r106 r108).flatMap Od.enc).toArray) rfl (by decide) (by decide) (by kernel_rfl) fun r110 => ?_)
        refine ⟨(by first | exact Sb.refl | exact Sb.nil | (repeat (first | exact Sb.nil | exact Sb.refl | exact Sb.app0 | apply Sb.keep | apply Sb.keepApp | apply Sb.cons | apply Sb.app))), ?_⟩
        refine xm_take 11 (m' := 4095) rfl (by kernel_rfl) (by first | exact Sb.refl | exact Sb.nil | (repeat (first | exact Sb.nil | exact Sb.refl | exact Sb.app0 | apply Sb.keep | apply Sb.keepApp | apply Sb.cons | apply Sb.app))) (rd_assign rfl) rfl (by kernel_rfl) ?_
        refine xm_done (by kernel_rfl) ?_
        rotate_left
        refine xm_take 9 (m' := 1011) rfl (by kernel_rfl) (by first | exact Sb.refl | exact Sb.nil | (repeat (first | exact Sb.nil | exact Sb.refl | exact Sb.app0 | apply Sb.keep | apply Sb.keepApp | apply Sb.cons | apply Sb.app))) (rd_build rfl rfl rfl) rfl (by kernel_rfl) ?_
        refine xm_one 2 (m' := 1015) rfl (by kernel_rfl) rfl (by kernel_rfl) (ef_makeSlice rfl rfl rfl (by omega) (by omega) (by omega) (by decide) fun r102 => ?_)
        refine ⟨(by first | exact Sb.refl | exact Sb.nil | (repeat (first | exact Sb.nil | exact Sb.refl | exact Sb.app0 | apply Sb.keep | apply Sb.keepApp | apply Sb.cons | apply Sb.app))), ?_⟩
        refine xm_take 3 (m' := 1023) rfl (by kernel_rfl) (by first | exact Sb.refl | exact Sb.nil | (repeat (first | exact Sb.nil | exact Sb.refl | exact Sb.app0 | apply Sb.keep | apply Sb.keepApp | apply Sb.cons | apply Sb.app))) (rd_build rfl rfl rfl) rfl (by kernel_rfl) ?_
        refine xm_one 10 (m' := 2047) rfl (by kernel_rfl) rfl (by kernel_rfl) (ef_buildL (T := 52) (len := 6) (s := 11) (cells := ((odds r102 r104 r106 r108).flatMap Od.enc).toArray) rfl (by decide) (by decide) (by kernel_rfl) fun r110 => ?_)
        refine ⟨(by first | exact Sb.refl | exact Sb.nil | (repeat (first | exact Sb.nil | exact Sb.refl | exact Sb.app0 | apply Sb.keep | apply Sb.keepApp | apply Sb.cons | apply Sb.app))), ?_⟩
        refine xm_take 11 (m' := 4095) rfl (by kernel_rfl) (by first | exact Sb.refl | exact Sb.nil | (repeat (first | exact Sb.nil | exact Sb.refl | exact Sb.app0 | apply Sb.keep | apply Sb.keepApp | apply Sb.cons | apply Sb.app))) (rd_assign rfl) rfl (by kernel_rfl) ?_
        refine xm_done (by kernel_rfl) ?_
        rotate_left
        refine xm_take 9 (m' := 819) rfl (by kernel_rfl) (by first | exact Sb.refl | exact Sb.nil | (repeat (first | exact Sb.nil | exact Sb.refl | exact Sb.app0 | apply Sb.keep | apply Sb.keepApp | apply Sb.cons | apply Sb.app))) (rd_build rfl rfl rfl) rfl (by kernel_rfl) ?_
        refine xm_two 2 6 (mi := 823) (mk := 883) rfl rfl (by kernel_rfl) rfl rfl (by kernel_rfl) (by kernel_rfl) (ef_makeSlice rfl rfl rfl (by omega) (by omega) (by omega) (by decide) fun r102 => ⟨(by first | exact Sb.refl | exact Sb.nil | (repeat (first | exact Sb.nil | exact Sb.refl | exact Sb.app0 | apply Sb.keep | apply Sb.keepApp | apply Sb.cons | apply Sb.app))), ?_⟩) (ef_makeSlice rfl rfl rfl (by omega) (by omega) (by omega) (by decide) fun r106 => ⟨(by first | exact Sb.refl | exact Sb.nil | (repeat (first | exact Sb.nil | exact Sb.refl | exact Sb.app0 | apply Sb.keep | apply Sb.keepApp | apply Sb.cons | apply Sb.app))), ?_⟩)
        refine xm_take 3 (m' := 831) rfl (by kernel_rfl) (by first | exact Sb.refl | exact Sb.nil | (repeat (first | exact Sb.nil | exact Sb.refl | exact Sb.app0 | apply Sb.keep | apply Sb.keepApp | apply Sb.cons | apply Sb.app))) (rd_build rfl rfl rfl) rfl (by kernel_rfl) ?_
        refine xm_one 6 (m' := 895) rfl (by kernel_rfl) rfl (by kernel_rfl) (ef_makeSlice rfl rfl rfl (by omega) (by omega) (by omega) (by decide) fun r106 => ?_)
        refine ⟨(by first | exact Sb.refl | exact Sb.nil | (repeat (first | exact Sb.nil | exact Sb.refl | exact Sb.app0 | apply Sb.keep | apply Sb.keepApp | apply Sb.cons | apply Sb.app))), ?_⟩
        refine xm_take 7 (m' := 1023) rfl (by kernel_rfl) (by first | exact Sb.refl | exact Sb.nil | (repeat (first | exact Sb.nil | exact Sb.refl | exact Sb.app0 | apply Sb.keep | apply Sb.keepApp | apply Sb.cons | apply Sb.app))) (rd_build rfl rfl rfl) rfl (by kernel_rfl) ?_
        refine xm_one 10 (m' := 2047) rfl (by kernel_rfl) rfl (by kernel_rfl) (ef_buildL (T := 52) (len := 6) (s := 11) (cells := ((odds r102 r104 r106 r108).flatMap Od.enc).toArray) rfl (by decide) (by decide) (by kernel_rfl) fun r110 => ?_)
        refine ⟨(by first | exact Sb.refl | exact Sb.nil | (repeat (first | exact Sb.nil | exact Sb.refl | exact Sb.app0 | apply Sb.keep | apply Sb.keepApp | apply Sb.cons | apply Sb.app))), ?_⟩
        refine xm_take 11 (m' := 4095) rfl (by kernel_rfl) (by first | exact Sb.refl | exact Sb.nil | (repeat (first | exact Sb.nil | exact Sb.refl | exact Sb.app0 | apply Sb.keep | apply Sb.keepApp | apply Sb.cons | apply Sb.app))) (rd_assign rfl) rfl (by kernel_rfl) ?_
        refine xm_done (by kernel_rfl) ?_
        rotate_left
        refine xm_take 7 (m' := 1011) rfl (by kernel_rfl) (by first | exact Sb.refl | exact Sb.nil | (repeat (first | exact Sb.nil | exact Sb.refl | exact Sb.app0 | apply Sb.keep | apply Sb.keepApp | apply Sb.cons | apply Sb.app))) (rd_build rfl rfl rfl) rfl (by kernel_rfl) ?_
        refine xm_one 2 (m' := 1015) rfl (by kernel_rfl) rfl (by kernel_rfl) (ef_makeSlice rfl rfl rfl (by omega) (by omega) (by omega) (by decide) fun r102 => ?_)
        refine ⟨(by first | exact Sb.refl | exact Sb.nil | (repeat (first | exact Sb.nil | exact Sb.refl | exact Sb.app0 | apply Sb.keep | apply Sb.keepApp | apply Sb.cons | apply Sb.app))), ?_⟩
        refine xm_take 3 (m' := 1023) rfl (by kernel_rfl) (by first | exact Sb.refl | exact Sb.nil | (repeat (first | exact Sb.nil | exact Sb.refl | exact Sb.app0 | apply Sb.keep | apply Sb.keepApp | apply Sb.cons | apply Sb.app))) (rd_build rfl rfl rfl) rfl (by kernel_rfl) ?_
        refine xm_one 10 (m' := 2047) rfl (by kernel_rfl) rfl (by kernel_rfl) (ef_buildL (T := 52) (len := 6) (s := 11) (cells := ((odds r102 r104 r106 r108).flatMap Od.enc).toArray) rfl (by decide) (by decide) (by kernel_rfl) fun r110 => ?_)
        refine ⟨(by first | exact Sb.refl | exact Sb.nil | (repeat (first | exact Sb.nil | exact Sb.refl | exact Sb.app0 | apply Sb.keep | apply Sb.keepApp | apply Sb.cons | apply Sb.app))), ?_⟩
        refine xm_take 11 (m' := 4095) rfl (by kernel_rfl) (by first | exact Sb.refl | exact Sb.nil | (repeat (first | exact Sb.nil | exact Sb.refl | exact Sb.app0 | apply Sb.keep | apply Sb.keepApp | apply Sb.cons | apply Sb.app))) (rd_assign rfl) rfl (by kernel_rfl) ?_
        refine xm_done (by kernel_rfl) ?_
        rotate_left
        refine xm_take 7 (m' := 195) rfl (by kernel_rfl) (by first | exact Sb.refl | exact Sb.nil | (repeat (first | exact Sb.nil | exact Sb.refl | exact Sb.app0 | apply Sb.keep | apply Sb.keepApp | apply Sb.cons | apply Sb.app))) (rd_build rfl rfl rfl) rfl (by kernel_rfl) ?_
        refine xm_three 2 4 8 (mi := 199) (mk := 211) (ml := 451) rfl rfl rfl (by kernel_rfl) rfl rfl rfl (by kernel_rfl) (by kernel_rfl) (by kernel_rfl) (ef_makeSlice rfl rfl rfl (by omega) (by omega) (by omega) (by decide) fun r102 => ⟨(by first | exact Sb.refl | exact Sb.nil | (repeat (first | exact Sb.nil | exact Sb.refl | exact Sb.app0 | apply Sb.keep | apply Sb.keepApp | apply Sb.cons | apply Sb.app))), ?_⟩) (ef_makeSlice rfl rfl rfl (by omega) (by omega) (by omega) (by decide) fun r104 => ⟨(by first | exact Sb.refl | exact Sb.nil | (repeat (first | exact Sb.nil | exact Sb.refl | exact Sb.app0 | apply Sb.keep | apply Sb.keepApp | apply Sb.cons | apply Sb.app))), ?_⟩) (ef_makeSlice rfl rfl rfl (by omega) (by omega) (by omega) (by decide) fun r108 => ⟨(by first | exact Sb.refl | exact Sb.nil | (repeat (first | exact Sb.nil | exact Sb.refl | exact Sb.app0 | apply Sb.keep | apply Sb.keepApp | apply Sb.cons | apply Sb.app))), ?_⟩)
        refine xm_take 3 (m' := 207) rfl (by kernel_rfl) (by first | exact Sb.refl | exact Sb.nil | (repeat (first | exact Sb.nil | exact Sb.refl | exact Sb.app0 | apply Sb.keep | apply Sb.keepApp | apply Sb.cons | apply Sb.app))) (rd_build rfl rfl rfl) rfl (by kernel_rfl) ?_
        refine xm_two 4 8 (mi := 223) (mk := 463) rfl rfl (by kernel_rfl) rfl rfl (by kernel_rfl) (by kernel_rfl) (ef_makeSlice rfl rfl rfl (by omega) (by omega) (by omega) (by decide) fun r104 => ⟨(by first | exact Sb.refl | exact Sb.nil | (repeat (first | exact Sb.nil | exact Sb.refl | exact Sb.app0 | apply Sb.keep | apply Sb.keepApp | apply Sb.cons | apply Sb.app))), ?_⟩) (ef_makeSlice rfl rfl rfl (by omega) (by omega) (by omega) (by decide) fun r108 => ⟨(by first | exact Sb.refl | exact Sb.nil | (repeat (first | exact Sb.nil | exact Sb.refl | exact Sb.app0 | apply Sb.keep | apply Sb.keepApp | apply Sb.cons | apply Sb.app))), ?_⟩)
        refine xm_take 5 (m' := 255) rfl (by kernel_rfl) (by first | exact Sb.refl | exact Sb.nil | (repeat (first | exact Sb.nil | exact Sb.refl | exact Sb.app0 | apply Sb.keep | apply Sb.keepApp | apply Sb.cons | apply Sb.app))) (rd_build rfl rfl rfl) rfl (by kernel_rfl) ?_
        refine xm_one 8 (m' := 511) rfl (by kernel_rfl) rfl (by kernel_rfl) (ef_makeSlice rfl rfl rfl (by omega) (by omega) (by omega) (by decide) fun r108 => ?_)
        refine ⟨(by first | exact Sb.refl | exact Sb.nil | (repeat (first | exact Sb.nil | exact Sb.refl | exact Sb.app0 | apply Sb.keep | apply Sb.keepApp | apply Sb.cons | apply Sb.app))), ?_⟩
        refine xm_take 9 (m' := 1023) rfl (by kernel_rfl) (by first | exact Sb.refl | exact Sb.nil | (repeat (first | exact Sb.nil | exact Sb.refl | exact Sb.app0 | apply Sb.keep | apply Sb.keepApp | apply Sb.cons | apply Sb.app))) (rd_build rfl rfl rfl) rfl (by kernel_rfl) ?_
        refine xm_one 10 (m' := 2047) rfl (by kernel_rfl) rfl (by kernel_rfl) (ef_buildL (T := 52) (len := 6) (s := 11) (cells := ((odds r102 r104 r106 r108).flatMap Od.enc).toArray) rfl (by decide) (by decide) (by kernel_rfl) fun r110 => ?_)
        refine ⟨(by first | exact Sb.refl | exact Sb.nil | (repeat (first | exact Sb.nil | exact Sb.refl | exact Sb.app0 | apply Sb.keep | apply Sb.keepApp | apply Sb.cons | apply Sb.app))), ?_⟩
        refine xm_take 11 (m' := 4095) rfl (by kernel_rfl) (by first | exact Sb.refl | exact Sb.nil | (repeat (first | exact Sb.nil | exact Sb.refl | exact Sb.app0 | apply Sb.keep | apply Sb.keepApp | apply Sb.cons | apply Sb.app))) (rd_assign rfl) rfl (by kernel_rfl) ?_
        refine xm_done (by kernel_rfl) ?_
        rotate_left
        refine xm_take 9 (m' := 975) rfl (by kernel_rfl) (by first | exact Sb.refl | exact Sb.nil | (repeat (first | exact Sb.nil | exact Sb.refl | exact Sb.app0 | apply Sb.keep | apply Sb.keepApp | apply Sb.cons | apply Sb.app))) (rd_build rfl rfl rfl) rfl (by kernel_rfl) ?_
        refine xm_one 4 (m' := 991) rfl (by kernel_rfl) rfl (by kernel_rfl) (ef_makeSlice rfl rfl rfl (by omega) (by omega) (by omega) (by decide) fun r104 => ?_)
        refine ⟨(by first | exact Sb.refl | exact Sb.nil | (repeat (first | exact Sb.nil | exact Sb.refl | exact Sb.app0 | apply Sb.keep | apply Sb.keepApp | apply Sb.cons | apply Sb.app))), ?_⟩
        refine xm_take 5 (m' := 1023) rfl (by kernel_rfl) (by first | exact Sb.refl | exact Sb.nil | (repeat (first | exact Sb.nil | exact Sb.refl | exact Sb.app0 | apply Sb.keep | apply Sb.keepApp | apply Sb.cons | apply Sb.app))) (rd_build rfl rfl rfl) rfl (by kernel_rfl) ?_
        refine xm_one 10 (m' := 2047) rfl (by kernel_rfl) rfl (by kernel_rfl) (ef_buildL (T := 52) (len := 6) (s := 11) (cells := ((odds r102 r104 r106 r108).flatMap Od.enc).toArray) rfl (by decide) (by decide) (by kernel_rfl) fun r110 => ?_)
        refine ⟨(by first | exact Sb.refl | exact Sb.nil | (repeat (first | exact Sb.nil | exact Sb.refl | exact Sb.app0 | apply Sb.keep | apply Sb.keepApp | apply Sb.cons | apply Sb.app))), ?_⟩
        refine xm_take 11 (m' := 4095) rfl (by kernel_rfl) (by first | exact Sb.refl | exact Sb.nil | (repeat (first | exact Sb.nil | exact Sb.refl | exact Sb.app0 | apply Sb.keep | apply Sb.keepApp | apply Sb.cons | apply Sb.app))) (rd_assign rfl) rfl (by kernel_rfl) ?_
        refine xm_done (by kernel_rfl) ?_
        rotate_left
        refine xm_take 5 (m' := 243) rfl (by kernel_rfl) (by first | exact Sb.refl | exact Sb.nil | (repeat (first | exact Sb.nil | exact Sb.refl | exact Sb.app0 | apply Sb.keep | apply Sb.keepApp | apply Sb.cons | apply Sb.app))) (rd_build rfl rfl rfl) rfl (by kernel_rfl) ?_
        refine xm_two 2 8 (mi := 247) (mk := 499) rfl rfl (by kernel_rfl) rfl rfl (by kernel_rfl) (by kernel_rfl) (ef_makeSlice rfl rfl rfl (by omega) (by omega) (by omega) (by decide) fun r102 => ⟨(by first | exact Sb.refl | exact Sb.nil | (repeat (first | exact Sb.nil | exact Sb.refl | exact Sb.app0 | apply Sb.keep | apply Sb.keepApp | apply Sb.cons | apply Sb.app))), ?_⟩) (ef_makeSlice rfl rfl rfl (by omega) (by omega) (by omega) (by decide) fun r108 => ⟨(by first | exact Sb.refl | exact Sb.nil | (repeat (first | exact Sb.nil | exact Sb.refl | exact Sb.app0 | apply Sb.keep | apply Sb.keepApp | apply Sb.cons | apply Sb.app))), ?_⟩)
        refine xm_take 3 (m' := 255) rfl (by kernel_rfl) (by first | exact Sb.refl | exact Sb.nil | (repeat (first | exact Sb.nil | exact Sb.refl | exact Sb.app0 | apply Sb.keep | apply Sb.keepApp | apply Sb.cons | apply Sb.app))) (rd_build rfl rfl rfl) rfl (by kernel_rfl) ?_
        refine xm_one 8 (m' := 511) rfl (by kernel_rfl) rfl (by kernel_rfl) (ef_makeSlice rfl rfl rfl (by omega) (by omega) (by omega) (by decide) fun r108 => ?_)
        refine ⟨(by first | exact Sb.refl | exact Sb.nil | (repeat (first | exact Sb.nil | exact Sb.refl | exact Sb.app0 | apply Sb.keep | apply Sb.keepApp | apply Sb.cons | apply Sb.app))), ?_⟩
        refine xm_take 9 (m' := 1023) rfl (by kernel_rfl) (by first | exact Sb.refl | exact Sb.nil | (repeat (first | exact Sb.nil | exact Sb.refl | exact Sb.app0 | apply Sb.keep | apply Sb.keepApp | apply Sb.cons | apply Sb.app))) (rd_build rfl rfl rfl) rfl (by kernel_rfl) ?_
        refine xm_one 10 (m' := 2047) rfl (by kernel_rfl) rfl (by kernel_rfl) (ef_buildL (T := 52) (len := 6) (s := 11) (cells := ((odds r102 r104 r106 r108).flatMap Od.enc).toArray) rfl (by decide) (by decide) (by kernel_rfl) fun r110 => ?_)
        refine ⟨(by first | exact Sb.refl | exact Sb.nil | (repeat (first | exact Sb.nil | exact Sb.refl | exact Sb.app0 | apply Sb.keep | apply Sb.keepApp | apply Sb.cons | apply Sb.app))), ?_⟩
        refine xm_take 11 (m' := 4095) rfl (by kernel_rfl) (by first | exact Sb.refl | exact Sb.nil | (repeat (first | exact Sb.nil | exact Sb.refl | exact Sb.app0 | apply Sb.keep | apply Sb.keepApp | apply Sb.cons | apply Sb.app))) (rd_assign rfl) rfl (by kernel_rfl) ?_
        refine xm_done (by kernel_rfl) ?_
        rotate_left
        refine xm_take 9 (m' := 1011) rfl (by kernel_rfl) (by first | exact Sb.refl | exact Sb.nil | (repeat (first | exact Sb.nil | exact Sb.refl | exact Sb.app0 | apply Sb.keep | apply Sb.keepApp | apply Sb.cons | apply Sb.app))) (rd_build rfl rfl rfl) rfl (by kernel_rfl) ?_
        refine xm_one 2 (m' := 1015) rfl (by kernel_rfl) rfl (by kernel_rfl) (ef_makeSlice rfl rfl rfl (by omega) (by omega) (by omega) (by decide) fun r102 => ?_)
        refine ⟨(by first | exact Sb.refl | exact Sb.nil | (repeat (first | exact Sb.nil | exact Sb.refl | exact Sb.app0 | apply Sb.keep | apply Sb.keepApp | apply Sb.cons | apply Sb.app))), ?_⟩
        refine xm_take 3 (m' := 1023) rfl (by kernel_rfl) (by first | exact Sb.refl | exact Sb.nil | (repeat (first | exact Sb.nil | exact Sb.refl | exact Sb.app0 | apply Sb.keep | apply Sb.keepApp | apply Sb.cons | apply Sb.app))) (rd_build rfl rfl rfl) rfl (by kernel_rfl) ?_
        refine xm_one 10 (m' := 2047) rfl (by kernel_rfl) rfl (by kernel_rfl) (ef_buildL (T := 52) (len := 6) (s := 11) (cells := ((odds r102 r104 r106 r108).flatMap Od.enc).toArray) rfl (by decide) (by decide) (by kernel_rfl) fun r110 => ?_)
        refine ⟨(by first | exact Sb.refl | exact Sb.nil | (repeat (first | exact Sb.nil | exact Sb.refl | exact Sb.app0 | apply Sb.keep | apply Sb.keepApp | apply Sb.cons | apply Sb.app))), ?_⟩
        refine xm_take 11 (m' := 4095) rfl (by kernel_rfl) (by first | exact Sb.refl | exact Sb.nil | (repeat (first | exact Sb.nil | exact Sb.refl | exact Sb.app0 | apply Sb.keep | apply Sb.keepApp | apply Sb.cons | apply Sb.app))) (rd_assign rfl) rfl (by kernel_rfl) ?_
        refine xm_done (by kernel_rfl) ?_
        rotate_left
        refine xm_take 9 (m' := 963) rfl (by kernel_rfl) (by first | exact Sb.refl | exact Sb.nil | (repeat (first | exact Sb.nil | exact Sb.refl | exact Sb.app0 | apply Sb.keep | apply Sb.keepApp | apply Sb.cons | apply Sb.app))) (rd_build rfl rfl rfl) rfl (by kernel_rfl) ?_
        refine xm_two 2 4 (mi := 967) (mk := 979) rfl rfl (by kernel_rfl) rfl rfl (by kernel_rfl) (by kernel_rfl) (ef_makeSlice rfl rfl rfl (by omega) (by omega) (by omega) (by decide) fun r102 => ⟨(by first | exact Sb.refl | exact Sb.nil | (repeat (first | exact Sb.nil | exact Sb.refl | exact Sb.app0 | apply Sb.keep | apply Sb.keepApp | apply Sb.cons | apply Sb.app))), ?_⟩) (ef_makeSlice rfl rfl rfl (by omega) (by omega) (by omega) (by decide) fun r104 => ⟨(by first | exact Sb.refl | exact Sb.nil | (repeat (first | exact Sb.nil | exact Sb.refl | exact Sb.app0 | apply Sb.keep | apply Sb.keepApp | apply Sb.cons | apply Sb.app))), ?_⟩)
        refine xm_take 3 (m' := 975) rfl (by kernel_rfl) (by first | exact Sb.refl | exact Sb.nil | (repeat (first | exact Sb.nil | exact Sb.refl | exact Sb.app0 | apply Sb.keep | apply Sb.keepApp | apply Sb.cons | apply Sb.app))) (rd_build rfl rfl rfl) rfl (by kernel_rfl) ?_
        refine xm_one 4 (m' := 991) rfl (by kernel_rfl) rfl (by kernel_rfl) (ef_makeSlice rfl rfl rfl (by omega) (by omega) (by omega) (by decide) fun r104 => ?_)
        refine ⟨(by first | exact Sb.refl | exact Sb.nil | (repeat (first | exact Sb.nil | exact Sb.refl | exact Sb.app0 | apply Sb.keep | apply Sb.keepApp | apply Sb.cons | apply Sb.app))), ?_⟩
        refine xm_take 5 (m' := 1023) rfl (by kernel_rfl) (by first | exact Sb.refl | exact Sb.nil | (repeat (first | exact Sb.nil | exact Sb.refl | exact Sb.app0 | apply Sb.keep | apply Sb.keepApp | apply Sb.cons | apply Sb.app))) (rd_build rfl rfl rfl) rfl (by kernel_rfl) ?_
        refine xm_one 10 (m' := 2047) rfl (by kernel_rfl) rfl (by kernel_rfl) (ef_buildL (T := 52) (len := 6) (s := 11) (cells := ((odds r102 r104 r106 r108).flatMap Od.enc).toArray) rfl (by decide) (by decide) (by kernel_rfl) fun r110 => ?_)
        refine ⟨(by first | exact Sb.refl | exact Sb.nil | (repeat (first | exact Sb.nil | exact Sb.refl | exact Sb.app0 | apply Sb.keep | apply Sb.keepApp | apply Sb.cons | apply Sb.app))), ?_⟩
        refine xm_take 11 (m' := 4095) rfl (by kernel_rfl) (by first | exact Sb.refl | exact Sb.nil | (repeat (first | exact Sb.nil | exact Sb.refl | exact Sb.app0 | apply Sb.keep | apply Sb.keepApp | apply Sb.cons | apply Sb.app))) (rd_assign rfl) rfl (by kernel_rfl) ?_
        refine xm_done (by kernel_rfl) ?_
        rotate_left
        refine xm_take 5 (m' := 1011) rfl (by kernel_rfl) (by first | exact Sb.refl | exact Sb.nil | (repeat (first | exact Sb.nil | exact Sb.refl | exact Sb.app0 | apply Sb.keep | apply Sb.keepApp | apply Sb.cons | apply Sb.app))) (rd_build rfl rfl rfl) rfl (by kernel_rfl) ?_
        refine xm_one 2 (m' := 1015) rfl (by kernel_rfl) rfl (by kernel_rfl) (ef_makeSlice rfl rfl rfl (by omega) (by omega) (by omega) (by decide) fun r102 => ?_)
        refine ⟨(by first | exact Sb.refl | exact Sb.nil | (repeat (first | exact Sb.nil | exact Sb.refl | exact Sb.app0 | apply Sb.keep | apply Sb.keepApp | apply Sb.cons | apply Sb.app))), ?_⟩
        refine xm_take 3 (m' := 1023) rfl (by kernel_rfl) (by first | exact Sb.refl | exact Sb.nil | (repeat (first | exact Sb.nil | exact Sb.refl | exact Sb.app0 | apply Sb.keep | apply Sb.keepApp | apply Sb.cons | apply Sb.app))) (rd_build rfl rfl rfl) rfl (by kernel_rfl) ?_
        refine xm_one 10 (m' := 2047) rfl (by kernel_rfl) rfl (by kernel_rfl) (ef_buildL (T := 52) (len := 6) (s := 11) (cells := ((odds r102 r104 r106 r108).flatMap Od.enc).toArray) rfl (by decide) (by decide) (by kernel_rfl) fun r110 => ?_)
        refine ⟨(by first | exact Sb.refl | exact Sb.nil | (repeat (first | exact Sb.nil | exact Sb.refl | exact Sb.app0 | apply Sb.keep | apply Sb.keepApp | apply Sb.cons | apply Sb.app))), ?_⟩
        refine xm_take 11 (m' := 4095) rfl (by kernel_rfl) (by first | exact Sb.refl | exact Sb.nil | (repeat (first | exact Sb.nil | exact Sb.refl | exact Sb.app0 | apply Sb.keep | apply Sb.keepApp | apply Sb.cons | apply Sb.app))) (rd_assign rfl) rfl (by kernel_rfl) ?_
        refine xm_done (by kernel_rfl) ?_
        rotate_left
        refine xm_take 9 (m' := 771) rfl (by kernel_rfl) (by first | exact Sb.refl | exact Sb.nil | (repeat (first | exact Sb.nil | exact Sb.refl | exact Sb.app0 | apply Sb.keep | apply Sb.keepApp | apply Sb.cons | apply Sb.app))) (rd_build rfl rfl rfl) rfl (by kernel_rfl) ?_
        refine xm_three 2 4 6 (mi := 775) (mk := 787) (ml := 835) rfl rfl rfl (by kernel_rfl) rfl rfl rfl (by kernel_rfl) (by kernel_rfl) (by kernel_rfl) (ef_makeSlice rfl rfl rfl (by omega) (by omega) (by omega) (by decide) fun r102 => ⟨(by first | exact Sb.refl | exact Sb.nil | (repeat (first | exact Sb.nil | exact Sb.refl | exact Sb.app0 | apply Sb.keep | apply Sb.keepApp | apply Sb.cons | apply Sb.app))), ?_⟩) (ef_makeSlice rfl rfl rfl (by omega) (by omega) (by omega) (by decide) fun r104 => ⟨(by first | exact Sb.refl | exact Sb.nil | (repeat (first | exact Sb.nil | exact Sb.refl | exact Sb.app0 | apply Sb.keep | apply Sb.keepApp | apply Sb.cons | apply Sb.app))), ?_⟩) (ef_makeSlice rfl rfl rfl (by omega) (by omega) (by omega) (by decide) fun r106 => ⟨(by first | exact Sb.refl | exact Sb.nil | (repeat (first | exact Sb.nil | exact Sb.refl | exact Sb.app0 | apply Sb.keep | apply Sb.keepApp | apply Sb.cons | apply Sb.app))), ?_⟩)
        refine xm_take 3 (m' := 783) rfl (by kernel_rfl) (by first | exact Sb.refl | exact Sb.nil | (repeat (first | exact Sb.nil | exact Sb.refl | exact Sb.app0 | apply Sb.keep | apply Sb.keepApp | apply Sb.cons | apply Sb.app))) (rd_build rfl rfl rfl) rfl (by kernel_rfl) ?_
        refine xm_two 4 6 (mi := 799) (mk := 847) rfl rfl (by kernel_rfl) rfl rfl (by kernel_rfl) (by kernel_rfl) (ef_makeSlice rfl rfl rfl (by omega) (by omega) (by omega) (by decide) fun r104 => ⟨(by first | exact Sb.refl | exact Sb.nil | (repeat (first | exact Sb.nil | exact Sb.refl | exact Sb.app0 | apply Sb.keep | apply Sb.keepApp | apply Sb.cons | apply Sb.app))), ?_⟩) (ef_makeSlice rfl rfl rfl (by omega) (by omega) (by omega) (by decide) fun r106 => ⟨(by first | exact Sb.refl | exact Sb.nil | (repeat (first | exact Sb.nil | exact Sb.refl | exact Sb.app0 | apply Sb.keep | apply Sb.keepApp | apply Sb.cons | apply Sb.app))), ?_⟩)
        refine xm_take 5 (m' := 831) rfl (by kernel_rfl) (by first | exact Sb.refl | exact Sb.nil | (repeat (first | exact Sb.nil | exact Sb.refl | exact Sb.app0 | apply Sb.keep | apply Sb.keepApp | apply Sb.cons | apply Sb.app))) (rd_build rfl rfl rfl) rfl (by kernel_rfl) ?_
        refine xm_one 6 (m' := 895) rfl (by kernel_rfl) rfl (by kernel_rfl) (ef_makeSlice rfl rfl rfl (by omega) (by omega) (by omega) (by decide) fun r106 => ?_)
        refine ⟨(by first | exact Sb.refl | exact Sb.nil | (repeat (first | exact Sb.nil | exact Sb.refl | exact Sb.app0 | apply Sb.keep | apply Sb.keepApp | apply Sb.cons | apply Sb.app))), ?_⟩
        refine xm_take 7 (m' := 1023) rfl (by kernel_rfl) (by first | exact Sb.refl | exact Sb.nil | (repeat (first | exact Sb.nil | exact Sb.refl | exact Sb.app0 | apply Sb.keep | apply Sb.keepApp | apply Sb.cons | apply Sb.app))) (rd_build rfl rfl rfl) rfl (by kernel_rfl) ?_
        refine xm_one 10 (m' := 2047) rfl (by kernel_rfl) rfl (by kernel_rfl) (ef_buildL (T := 52) (len := 6) (s := 11) (cells := ((odds r102 r104 r106 r108).flatMap Od.enc).toArray) rfl (by decide) (by decide) (by kernel_rfl) fun r110 => ?_)
        refine ⟨(by first | exact Sb.refl | exact Sb.nil | (repeat (first | exact Sb.nil | exact Sb.refl | exact Sb.app0 | apply Sb.keep | apply Sb.keepApp | apply Sb.cons | apply Sb.app))), ?_⟩
        refine xm_take 11 (m' := 4095) rfl (by kernel_rfl) (by first | exact Sb.refl | exact Sb.nil | (repeat (first | exact Sb.nil | exact Sb.refl | exact Sb.app0 | apply Sb.keep | apply Sb.keepApp | apply Sb.cons | apply Sb.app))) (rd_assign rfl) rfl (by kernel_rfl) ?_
        refine xm_done (by kernel_rfl) ?_
        rotate_left
        refine xm_take 7 (m' := 975) rfl (by kernel_rfl) (by first | exact Sb.refl | exact Sb.nil | (repeat (first | exact Sb.nil | exact Sb.refl | exact Sb.app0 | apply Sb.keep | apply Sb.keepApp | apply Sb.cons | apply Sb.app))) (rd_build rfl rfl rfl) rfl (by kernel_rfl) ?_
        refine xm_one 4 (m' := 991) rfl (by kernel_rfl) rfl (by kernel_rfl) (ef_makeSlice rfl rfl rfl (by omega) (by omega) (by omega) (by decide) fun r104 => ?_)
        refine ⟨(by first | exact Sb.refl | exact Sb.nil | (repeat (first | exact Sb.nil | exact Sb.refl | exact Sb.app0 | apply Sb.keep | apply Sb.keepApp | apply Sb.cons | apply Sb.app))), ?_⟩
        refine xm_take 5 (m' := 1023) rfl (by kernel_rfl) (by first | exact Sb.refl | exact Sb.nil | (repeat (first | exact Sb.nil | exact Sb.refl | exact Sb.app0 | apply Sb.keep | apply Sb.keepApp | apply Sb.cons | apply Sb.app))) (rd_build rfl rfl rfl) rfl (by kernel_rfl) ?_
        refine xm_one 10 (m' := 2047) rfl (by kernel_rfl) rfl (by kernel_rfl) (ef_buildL (T := 52) (len := 6) (s := 11) (cells := ((odds r102 r104 r106 r108).flatMap Od.enc).toArray) rfl (by decide) (by decide) (by kernel_rfl) fun r110 => ?_)
        refine ⟨(by first | exact Sb.refl | exact Sb.nil | (repeat (first | exact Sb.nil | exact Sb.refl | exact Sb.app0 | apply Sb.keep | apply Sb.keepApp | apply Sb.cons | apply Sb.app))), ?_⟩
        refine xm_take 11 (m' := 4095) rfl (by kernel_rfl) (by first | exact Sb.refl | exact Sb.nil | (repeat (first | exact Sb.nil | exact Sb.refl | exact Sb.app0 | apply Sb.keep | apply Sb.keepApp | apply Sb.cons | apply Sb.app))) (rd_assign rfl) rfl (by kernel_rfl) ?_
        refine xm_done (by kernel_rfl) ?_
        rotate_left
        refine xm_take 5 (m' := 819) rfl (by kernel_rfl) (by first | exact Sb.refl | exact Sb.nil | (repeat (first | exact Sb.nil | exact Sb.refl | exact Sb.app0 | apply Sb.keep | apply Sb.keepApp | apply Sb.cons | apply Sb.app))) (rd_build rfl rfl rfl) rfl (by kernel_rfl) ?_
        refine xm_two 2 6 (mi := 823) (mk := 883) rfl rfl (by kernel_rfl) rfl rfl (by kernel_rfl) (by kernel_rfl) (ef_makeSlice rfl rfl rfl (by omega) (by omega) (by omega) (by decide) fun r102 => ⟨(by first | exact Sb.refl | exact Sb.nil | (repeat (first | exact Sb.nil | exact Sb.refl | exact Sb.app0 | apply Sb.keep | apply Sb.keepApp | apply Sb.cons | apply Sb.app))), ?_⟩) (ef_makeSlice rfl rfl rfl (by omega) (by omega) (by omega) (by decide) fun r106 => ⟨(by first | exact Sb.refl | exact Sb.nil | (repeat (first | exact Sb.nil | exact Sb.refl | exact Sb.app0 | apply Sb.keep | apply Sb.keepApp | apply Sb.cons | apply Sb.app))), ?_⟩)
        refine xm_take 3 (m' := 831) rfl (by kernel_rfl) (by first | exact Sb.refl | exact Sb.nil | (repeat (first | exact Sb.nil | exact Sb.refl | exact Sb.app0 | apply Sb.keep | apply Sb.keepApp | apply Sb.cons | apply Sb.app))) (rd_build rfl rfl rfl) rfl (by kernel_rfl) ?_
        refine xm_one 6 (m' := 895) rfl (by kernel_rfl) rfl (by kernel_rfl) (ef_makeSlice rfl rfl rfl (by omega) (by omega) (by omega) (by decide) fun r106 => ?_)
        refine ⟨(by first | exact Sb.refl | exact Sb.nil | (repeat (first | exact Sb.nil | exact Sb.refl | exact Sb.app0 | apply Sb.keep | apply Sb.keepApp | apply Sb.cons | apply Sb.app))), ?_⟩
        refine xm_take 7 (m' := 1023) rfl (by kernel_rfl) (by first | exact Sb.refl | exact Sb.nil | (repeat (first | exact Sb.nil | exact Sb.refl | exact Sb.app0 | apply Sb.keep | apply Sb.keepApp | apply Sb.cons | apply Sb.app))) (rd_build rfl rfl rfl) rfl (by kernel_rfl) ?_
        refine xm_one 10 (m' := 2047) rfl (by kernel_rfl) rfl (by kernel_rfl) (ef_buildL (T := 52) (len := 6) (s := 11) (cells := ((odds r102 r104 r106 r108).flatMap Od.enc).toArray) rfl (by decide) (by decide) (by kernel_rfl) fun r110 => ?_)
        refine ⟨(by first | exact Sb.refl | exact Sb.nil | (repeat (first | exact Sb.nil | exact Sb.refl | exact Sb.app0 | apply Sb.keep | apply Sb.keepApp | apply Sb.cons | apply Sb.app))), ?_⟩
        refine xm_take 11 (m' := 4095) rfl (by kernel_rfl) (by first | exact Sb.refl | exact Sb.nil | (repeat (first | exact Sb.nil | exact Sb.refl | exact Sb.app0 | apply Sb.keep | apply Sb.keepApp | apply Sb.cons | apply Sb.app))) (rd_assign rfl) rfl (by kernel_rfl) ?_
        refine xm_done (by kernel_rfl) ?_
        rotate_left
        refine xm_take 7 (m' := 1011) rfl (by kernel_rfl) (by first | exact Sb.refl | exact Sb.nil | (repeat (first | exact Sb.nil | exact Sb.refl | exact Sb.app0 | apply Sb.keep | apply Sb.keepApp | apply Sb.cons | apply Sb.app))) (rd_build rfl rfl rfl) rfl (by kernel_rfl) ?_
        refine xm_one 2 (m' := 1015) rfl (by kernel_rfl) rfl (by kernel_rfl) (ef_makeSlice rfl rfl rfl (by omega) (by omega) (by omega) (by decide) fun r102 => ?_)
        refine ⟨(by first | exact Sb.refl | exact Sb.nil | (repeat (first | exact Sb.nil | exact Sb.refl | exact Sb.app0 | apply Sb.keep | apply Sb.keepApp | apply Sb.cons | apply Sb.app))), ?_⟩
        refine xm_take 3 (m' := 1023) rfl (by kernel_rfl) (by first | exact Sb.refl | exact Sb.nil | (repeat (first | exact Sb.nil | exact Sb.refl | exact Sb.app0 | apply Sb.keep | apply Sb.keepApp | apply Sb.cons | apply Sb.app))) (rd_build rfl rfl rfl) rfl (by kernel_rfl) ?_
        refine xm_one 10 (m' := 2047) rfl (by kernel_rfl) rfl (by kernel_rfl) (ef_buildL (T := 52) (len := 6) (s := 11) (cells := ((odds r102 r104 r106 r108).flatMap Od.enc).toArray) rfl (by decide) (by decide) (by kernel_rfl) fun r110 => ?_)
        refine ⟨(by first | exact Sb.refl | exact Sb.nil | (repeat (first | exact Sb.nil | exact Sb.refl | exact Sb.app0 | apply Sb.keep | apply Sb.keepApp | apply Sb.cons | apply Sb.app))), ?_⟩
        refine xm_take 11 (m' := 4095) rfl (by kernel_rfl) (by first | exact Sb.refl | exact Sb.nil | (repeat (first | exact Sb.nil | exact Sb.refl | exact Sb.app0 | apply Sb.keep | apply Sb.keepApp | apply Sb.cons | apply Sb.app))) (rd_assign rfl) rfl (by kernel_rfl) ?_
        refine xm_done (by kernel_rfl) ?_
        rotate_left
        refine xm_take 7 (m' := 963) rfl (by kernel_rfl) (by first | exact Sb.refl | exact Sb.nil | (repeat (first | exact Sb.nil | exact Sb.refl | exact Sb.app0 | apply Sb.keep | apply Sb.keepApp | apply Sb.cons | apply Sb.app))) (rd_build rfl rfl rfl) rfl (by kernel_rfl) ?_
        refine xm_two 2 4 (mi := 967) (mk := 979) rfl rfl (by kernel_rfl) rfl rfl (by kernel_rfl) (by kernel_rfl) (ef_makeSlice rfl rfl rfl (by omega) (by omega) (by omega) (by decide) fun r102 => ⟨(by first | exact Sb.refl | exact Sb.nil | (repeat (first | exact Sb.nil | exact Sb.refl | exact Sb.app0 | apply Sb.keep | apply Sb.keepApp | apply Sb.cons | apply Sb.app))), ?_⟩) (ef_makeSlice rfl rfl rfl (by omega) (by omega) (by omega) (by decide) fun r104 => ⟨(by first | exact Sb.refl | exact Sb.nil | (repeat (first | exact Sb.nil | exact Sb.refl | exact Sb.app0 | apply Sb.keep | apply Sb.keepApp | apply Sb.cons | apply Sb.app))), ?_⟩)
        refine xm_take 3 (m' := 975) rfl (by kernel_rfl) (by first | exact Sb.refl | exact Sb.nil | (repeat (first | exact Sb.nil | exact Sb.refl | exact Sb.app0 | apply Sb.keep | apply Sb.keepApp | apply Sb.cons | apply Sb.app))) (rd_build rfl rfl rfl) rfl (by kernel_rfl) ?_
        refine xm_one 4 (m' := 991) rfl (by kernel_rfl) rfl (by kernel_rfl) (ef_makeSlice rfl rfl rfl (by omega) (by omega) (by omega) (by decide) fun r104 => ?_)
        refine ⟨(by first | exact Sb.refl | exact Sb.nil | (repeat (first | exact Sb.nil | exact Sb.refl | exact Sb.app0 | apply Sb.keep | apply Sb.keepApp | apply Sb.cons | apply Sb.app))), ?_⟩
        refine xm_take 5 (m' := 1023) rfl (by kernel_rfl) (by first | exact Sb.refl | exact Sb.nil | (repeat (first | exact Sb.nil | exact Sb.refl | exact Sb.app0 | apply Sb.keep | apply Sb.keepApp | apply Sb.cons | apply Sb.app))) (rd_build rfl rfl rfl) rfl (by kernel_rfl) ?_
        refine xm_one 10 (m' := 2047) rfl (by kernel_rfl) rfl (by kernel_rfl) (ef_buildL (T := 52) (len := 6) (s := 11) (cells := ((odds r102 r104 r106 r108).flatMap Od.enc).toArray) rfl (by decide) (by decide) (by kernel_rfl) fun r110 => ?_)
        refine ⟨(by first | exact Sb.refl | exact Sb.nil | (repeat (first | exact Sb.nil | exact Sb.refl | exact Sb.app0 | apply Sb.keep | apply Sb.keepApp | apply Sb.cons | apply Sb.app))), ?_⟩
        refine xm_take 11 (m' := 4095) rfl (by kernel_rfl) (by first | exact Sb.refl | exact Sb.nil | (repeat (first | exact Sb.nil | exact Sb.refl | exact Sb.app0 | apply Sb.keep | apply Sb.keepApp | apply Sb.cons | apply Sb.app))) (rd_assign rfl) rfl (by kernel_rfl) ?_
        refine xm_done (by kernel_rfl) ?_
        rotate_left
        refine xm_take 5 (m' := 1011) rfl (by kernel_rfl) (by first | exact Sb.refl | exact Sb.nil | (repeat (first | exact Sb.nil | exact Sb.refl | exact Sb.app0 | apply Sb.keep | apply Sb.keepApp | apply Sb.cons | apply Sb.app))) (rd_build rfl rfl rfl) rfl (by kernel_rfl) ?_
        refine xm_one 2 (m' := 1015) rfl (by kernel_rfl) rfl (by kernel_rfl) (ef_makeSlice rfl rfl rfl (by omega) (by omega) (by omega) (by decide) fun r102 => ?_)
        refine ⟨(by first | exact Sb.refl | exact Sb.nil | (repeat (first | exact Sb.nil | exact Sb.refl | exact Sb.app0 | apply Sb.keep | apply Sb.keepApp | apply Sb.cons | apply Sb.app))), ?_⟩
        refine xm_take 3 (m' := 1023) rfl (by kernel_rfl) (by first | exact Sb.refl | exact Sb.nil | (repeat (first | exact Sb.nil | exact Sb.refl | exact Sb.app0 | apply Sb.keep | apply Sb.keepApp | apply Sb.cons | apply Sb.app))) (rd_build rfl rfl rfl) rfl (by kernel_rfl) ?_
        refine xm_one 10 (m' := 2047) rfl (by kernel_rfl) rfl (by kernel_rfl) (ef_buildL (T := 52) (len := 6) (s := 11) (cells := ((odds r102 r104 r106 r108).flatMap Od.enc).toArray) rfl (by decide) (by decide) (by kernel_rfl) fun r110 => ?_)
        refine ⟨(by first | exact Sb.refl | exact Sb.nil | (repeat (first | exact Sb.nil | exact Sb.refl | exact Sb.app0 | apply Sb.keep | apply Sb.keepApp | apply Sb.cons | apply Sb.app))), ?_⟩
        refine xm_take 11 (m' := 4095) rfl (by kernel_rfl) (by first | exact Sb.refl | exact Sb.nil | (repeat (first | exact Sb.nil | exact Sb.refl | exact Sb.app0 | apply Sb.keep | apply Sb.keepApp | apply Sb.cons | apply Sb.app))) (rd_assign rfl) rfl (by kernel_rfl) ?_
        refine xm_done (by kernel_rfl) ?_
        rotate_left
      all_goals refine xq_perm (L' := (r13, .cells (Pk.enc (.ext ea) (.slice s1 (Pk.ext ea).cs.length k1) (.slice s2 (Pk.ext ea).ex.length k2) (.slice s3 (Pk.ext ea).pl.length k3)).toArray 33 (0, 0)) :: (r7, .cells (Pk.enc (.ext ea) (.slice none 0 0) (.slice (some ⟨r81, 0, none⟩) 262140 262140) (.slice none 0 0)).toArray 33 (0, 0)) :: [(r110, .cells ((odds r102 r104 r106 r108).flatMap Od.enc).toArray 33 (0, 0)), (r102, .cells (List.replicate (Int.toNat 4) (.int .u8 0)).toArray 5 (0, 0)), (r104, .cells (List.replicate (Int.toNat 2) (.int .u8 0)).toArray 5 (0, 0)), (r106, .cells (List.replicate (Int.toNat 16) (.int .u32 0)).toArray 26 (0, 0)), (r108, .cells (List.replicate (Int.toNat 15) (.int .u32 0)).toArray 26 (0, 0))]) ?_ (xq_joined ((r110, odds r102 r104 r106 r108, [(r110, .cells ((odds r102 r104 r106 r108).flatMap Od.enc).toArray 33 (0, 0)), (r102, .cells (List.replicate (Int.toNat 4) (.int .u8 0)).toArray 5 (0, 0)), (r104, .cells (List.replicate (Int.toNat 2) (.int .u8 0)).toArray 5 (0, 0)), (r106, .cells (List.replicate (Int.toNat 16) (.int .u32 0)).toArray 26 (0, 0)), (r108, .cells (List.replicate (Int.toNat 15) (.int .u32 0)).toArray 26 (0, 0))]) : Nat × List Od × List Blk) ⟨rfl, Rs.fresh (List.mem_cons_self ..), odds_ok (.tail _ (.head _)) (.tail _ (.tail _ (.head _))) (.tail _ (.tail _ (.tail _ (.head _)))) (.tail _ (.tail _ (.tail _ (.tail _ (.head _)))))⟩ rfl (by repeat (first | exact keep_nil | refine keep_cons rfl ?_)))
      all_goals exact (by classical exact List.perm_iff_count.2 fun a => by simp only [List.append_eq, List.count_append, List.count_cons, List.count_nil, List.cons_append, List.nil_append, List.flatMap_append, List.flatMap_cons, List.flatMap_nil, List.append_nil]; omega)
    · rintro ⟨r, rows, R⟩ ⟨hlen, hr, hok⟩
      dsimp only at hlen hr hok ⊢
      focus
        refine xc_seq ?_
        refine xc_seq ?_
        refine xc_region ?_
        refine xo_rd (rd_assign rfl) rfl ?_
        refine xo_nil ?_
        refine xq_seq ?_
        refine xc_block ?_
      refine xc_loopK (ι := Nat) (fun i => i ≤ 6) (fun i => 6 - i) (fun i => [(7, .pointer (some ⟨r7, 0, none⟩)), (9, .int .i64 0), (12, .int .i64 2), (13, .pointer (some ⟨r13, 0, none⟩)), (14, .int .i64 0), (15, .slice (some ⟨r, 0, none⟩) 6 6), (16, .int .i64 i)]) 0 (Nat.zero_le _) (by repeat (first | exact keep_nil | refine keep_cons rfl ?_)) ?_
      intro i hi
      by_cases h6 : i < 6
      · obtain ⟨b0, o0, hp, hc⟩ := hr.rows Od.len (by decide) (by omega)
        simp only [Option.some.injEq, Addr.mk.injEq, and_true] at hp
        obtain ⟨hp1, hp2⟩ := hp
        subst hp1 hp2
        have hci := hc i (by omega)
        have hc0 := hc 0 (by omega)
        have hk1 := hok rows[i] (List.getElem_mem _)
        have hk0 := hok rows[0] (List.getElem_mem _)
        generalize rows[i] = x at *
        generalize rows[0] = y at *
        have hcI : ∀ (j : Nat) (u : Value), x.enc[j]? = some u → Cl W ((r13, .cells (Pk.enc (.ext ea) (.slice s1 (Pk.ext ea).cs.length k1) (.slice s2 (Pk.ext ea).ex.length k2) (.slice s3 (Pk.ext ea).pl.length k3)).toArray 33 (0, 0)) :: (r7, .cells (Pk.enc (.ext ea) (.slice none 0 0) (.slice (some ⟨r81, 0, none⟩) 262140 262140) (.slice none 0 0)).toArray 33 (0, 0)) :: R) r (0 + (i : Int).toNat * 11 + j) u := fun j u hj => (hci j u hj).mono (by intro z hz; simp [hz])
        have hcZ : ∀ (j : Nat) (u : Value), y.enc[j]? = some u → Cl W ((r13, .cells (Pk.enc (.ext ea) (.slice s1 (Pk.ext ea).cs.length k1) (.slice s2 (Pk.ext ea).ex.length k2) (.slice s3 (Pk.ext ea).pl.length k3)).toArray 33 (0, 0)) :: (r7, .cells (Pk.enc (.ext ea) (.slice none 0 0) (.slice (some ⟨r81, 0, none⟩) 262140 262140) (.slice none 0 0)).toArray 33 (0, 0)) :: R) r (0 + Int.toNat 0 * 11 + j) u := fun j u hj => (hc0 j u hj).mono (by intro z hz; simp [hz])
        have hRs : ∀ z, z ∈ R → z ∈ (r13, .cells (Pk.enc (.ext ea) (.slice s1 (Pk.ext ea).cs.length k1) (.slice s2 (Pk.ext ea).ex.length k2) (.slice s3 (Pk.ext ea).pl.length k3)).toArray 33 (0, 0)) :: (r7, .cells (Pk.enc (.ext ea) (.slice none 0 0) (.slice (some ⟨r81, 0, none⟩) 262140 262140) (.slice none 0 0)).toArray 33 (0, 0)) :: R := fun z hz => List.mem_cons_of_mem _ (List.mem_cons_of_mem _ hz)
        focus
          refine xc_seq ?_
          refine xc_seq ?_
          refine xc_region ?_
          refine xo_rd (rd_move rfl) rfl ?_
          refine xo_rd (rd_move rfl) rfl ?_
          refine xo_rd (rd_len rfl) rfl ?_
          refine xo_rd (rd_lss rfl rfl) rfl ?_
          refine xo_nil ?_
          refine xq_seq ?_
          refine xc_dec rfl (fun h1 => ?_) (fun h1 => (by exfalso; omega))
          refine xc_skip ?_
          refine xq_seq ?_
          refine xc_seq ?_
          refine xc_block ?_
          refine xc_seq ?_
          refine xc_drawML [0, 0, 3, 4, 0, 16, 32, 72, 128, 384, 512, 512, 3584, 4608, 8704, 16896, 33280] [0, 0, 3, 4, 0, 16, 32, 72, 128, 384, 512, 512, 3584, 4608, 8704, 16896, 33280] (by kernel_rfl) (by kernel_rfl) (by kernel_rfl) ?_
          refine xm_take 0 (m' := 1) rfl (by kernel_rfl) (by first | exact Sb.refl | exact Sb.nil | (repeat (first | exact Sb.nil | exact Sb.refl | exact Sb.app0 | apply Sb.keep | apply Sb.keepApp | apply Sb.cons | apply Sb.app))) (rd_move rfl) rfl (by kernel_rfl) ?_
          refine xm_take 1 (m' := 3) rfl (by kernel_rfl) (by first | exact Sb.refl | exact Sb.nil | (repeat (first | exact Sb.nil | exact Sb.refl | exact Sb.app0 | apply Sb.keep | apply Sb.keepApp | apply Sb.cons | apply Sb.app))) (rd_move rfl) rfl (by kernel_rfl) ?_
          refine xm_take 2 (m' := 7) rfl (by kernel_rfl) (by first | exact Sb.refl | exact Sb.nil | (repeat (first | exact Sb.nil | exact Sb.refl | exact Sb.app0 | apply Sb.keep | apply Sb.keepApp | apply Sb.cons | apply Sb.app))) (rd_indexAddr rfl rfl (by omega) (by omega)) rfl (by kernel_rfl) ?_
          refine xm_take 3 (m' := 15) rfl (by kernel_rfl) (by first | exact Sb.refl | exact Sb.nil | (repeat (first | exact Sb.nil | exact Sb.refl | exact Sb.app0 | apply Sb.keep | apply Sb.keepApp | apply Sb.cons | apply Sb.app))) (rd_loadA (vs := x.enc) rfl rfl hcI) rfl (by kernel_rfl) ?_
          refine xm_take 4 (m' := 31) rfl (by kernel_rfl) (by first | exact Sb.refl | exact Sb.nil | (repeat (first | exact Sb.nil | exact Sb.refl | exact Sb.app0 | apply Sb.keep | apply Sb.keepApp | apply Sb.cons | apply Sb.app))) (rd_move rfl) rfl (by kernel_rfl) ?_
          refine xm_take 5 (m' := 63) rfl (by kernel_rfl) (by first | exact Sb.refl | exact Sb.nil | (repeat (first | exact Sb.nil | exact Sb.refl | exact Sb.app0 | apply Sb.keep | apply Sb.keepApp | apply Sb.cons | apply Sb.app))) (rd_indexAddr rfl rfl (by omega) (by omega)) rfl (by kernel_rfl) ?_
          refine xm_take 6 (m' := 127) rfl (by kernel_rfl) (by first | exact Sb.refl | exact Sb.nil | (repeat (first | exact Sb.nil | exact Sb.refl | exact Sb.app0 | apply Sb.keep | apply Sb.keepApp | apply Sb.cons | apply Sb.app))) (rd_loadA (vs := y.enc) rfl rfl hcZ) rfl (by kernel_rfl) ?_
          refine xm_one 7 (m' := 255) rfl (by kernel_rfl) rfl (by kernel_rfl) (ef_call rfl (XF.mono (xf_over fun w hw => xf_RtpPuts x.q y.q x.p1 x.p2 none y.p1 y.p2 none x.c1 x.c2 0 y.c1 y.c2 0 ((hk1.cs.mono hRs).over hw) ((hk1.ex.mono hRs).over hw) ((hk1.pl.mono hRs).over hw) ((hk0.cs.mono hRs).over hw) ((hk0.ex.mono hRs).over hw) ((hk0.pl.mono hRs).over hw) hk1.rg hk0.rg) ?_))
          rintro v L' ⟨rfl, rfl⟩
          refine ⟨(by first | exact Sb.refl | exact Sb.nil | (repeat (first | exact Sb.nil | exact Sb.refl | exact Sb.app0 | apply Sb.keep | apply Sb.keepApp | apply Sb.cons | apply Sb.app))), ?_⟩
          refine xm_take 8 (m' := 511) rfl (by kernel_rfl) (by first | exact Sb.refl | exact Sb.nil | (repeat (first | exact Sb.nil | exact Sb.refl | exact Sb.app0 | apply Sb.keep | apply Sb.keepApp | apply Sb.cons | apply Sb.app))) (rd_not rfl) rfl (by kernel_rfl) ?_
          refine xm_take 9 (m' := 1023) rfl (by kernel_rfl) (by first | exact Sb.refl | exact Sb.nil | (repeat (first | exact Sb.nil | exact Sb.refl | exact Sb.app0 | apply Sb.keep | apply Sb.keepApp | apply Sb.cons | apply Sb.app))) (rd_move rfl) rfl (by kernel_rfl) ?_
          refine xm_gtake 10 (m' := 2047) rfl (by kernel_rfl) (by first | exact Sb.refl | exact Sb.nil | (repeat (first | exact Sb.nil | exact Sb.refl | exact Sb.app0 | apply Sb.keep | apply Sb.keepApp | apply Sb.cons | apply Sb.app))) rfl rfl (rd_move rfl) rfl (by kernel_rfl) ?_
          refine xm_gtake 11 (m' := 4095) rfl (by kernel_rfl) (by first | exact Sb.refl | exact Sb.nil | (repeat (first | exact Sb.nil | exact Sb.refl | exact Sb.app0 | apply Sb.keep | apply Sb.keepApp | apply Sb.cons | apply Sb.app))) rfl rfl (rd_move rfl) rfl (by kernel_rfl) ?_
          refine xm_gtake 12 (m' := 8191) rfl (by kernel_rfl) (by first | exact Sb.refl | exact Sb.nil | (repeat (first | exact Sb.nil | exact Sb.refl | exact Sb.app0 | apply Sb.keep | apply Sb.keepApp | apply Sb.cons | apply Sb.app))) rfl rfl (rd_indexAddr rfl rfl (by omega) (by omega)) rfl (by kernel_rfl) ?_
          refine xm_gtake 13 (m' := 16383) rfl (by kernel_rfl) (by first | exact Sb.refl | exact Sb.nil | (repeat (first | exact Sb.nil | exact Sb.refl | exact Sb.app0 | apply Sb.keep | apply Sb.keepApp | apply Sb.cons | apply Sb.app))) rfl rfl (rd_loadA (vs := x.enc) rfl rfl hcI) rfl (by kernel_rfl) ?_
          refine xm_gone 14 (m' := 32767) rfl (by kernel_rfl) rfl rfl rfl (by kernel_rfl) (ef_call rfl (XF.mono (xf_over fun w hw => xf_RtpBack x.q x.p1 x.p2 none x.c1 x.c2 0 none 0 0 [] ((hk1.cs.mono hRs).over hw) ((hk1.ex.mono hRs).over hw) ((hk1.pl.mono hRs).over hw) hk1.rg rfl Rs.nil (fun x h => by cases h) (Nat.le_refl _) (Nat.zero_le _)) ?_))
          rintro v L' ⟨rfl, rfl⟩
          refine ⟨(by first | exact Sb.refl | exact Sb.nil | (repeat (first | exact Sb.nil | exact Sb.refl | exact Sb.app0 | apply Sb.keep | apply Sb.keepApp | apply Sb.cons | apply Sb.app))), ?_⟩
          refine xm_gtake 15 (m' := 65535) rfl (by kernel_rfl) (by first | exact Sb.refl | exact Sb.nil | (repeat (first | exact Sb.nil | exact Sb.refl | exact Sb.app0 | apply Sb.keep | apply Sb.keepApp | apply Sb.cons | apply Sb.app))) rfl rfl (rd_not rfl) rfl (by kernel_rfl) ?_
          refine xm_take 16 (m' := 131071) rfl (by kernel_rfl) (by first | exact Sb.refl | exact Sb.nil | (repeat (first | exact Sb.nil | exact Sb.refl | exact Sb.app0 | apply Sb.keep | apply Sb.keepApp | apply Sb.cons | apply Sb.app))) (rd_pickf rfl rfl) rfl (by kernel_rfl) ?_
          refine xm_done (by kernel_rfl) ?_
          refine xq_seq ?_
          refine xc_condf rfl ?_
          refine xc_skip ?_
          refine xq_block ?_
          refine xq_seq ?_
          refine xc_region ?_
          refine xo_rd (rd_move rfl) rfl ?_
          refine xo_rd (rd_addn rfl rfl (by omega) (by omega)) rfl ?_
          refine xo_rd (rd_assign rfl) rfl ?_
          refine xo_nil ?_
        exact xq_roundK rfl (i + 1) (by omega) (by omega) (List.Sublist.refl _) (by repeat (first | exact keep_nil | refine keep_cons rfl ?_))
      · have hle : (Pk.ext ea).ex.length = 262140 := hla
        focus
          refine xc_seq ?_
          refine xc_seq ?_
          refine xc_region ?_
          refine xo_rd (rd_move rfl) rfl ?_
          refine xo_rd (rd_move rfl) rfl ?_
          refine xo_rd (rd_len rfl) rfl ?_
          refine xo_rd (rd_lss rfl rfl) rfl ?_
          refine xo_nil ?_
          refine xq_seq ?_
          refine xc_dec rfl (fun hz1 => (by exfalso; omega)) (fun hz1 => ?_)
          refine xc_exit ?_
          refine xq_then_exit ?_
          refine xq_then_exit ?_
          refine xq_block_hit ?_
          refine xq_seq ?_
          refine xc_seq ?_
          refine xc_region ?_
          refine xo_rd (rd_move rfl) rfl ?_
          refine xo_rd (rd_eql rfl rfl) rfl ?_
          refine xo_rd (rd_move rfl) rfl ?_
          refine xo_grd rfl rfl (rd_move rfl) rfl ?_
          refine xo_grd rfl rfl (rd_eql rfl rfl) rfl ?_
          refine xo_rd (rd_pickt rfl rfl) rfl ?_
          refine xo_rd (rd_move rfl) rfl ?_
          refine xo_grd rfl rfl (rd_move rfl) rfl ?_
          refine xo_grd rfl rfl (rd_eql rfl rfl) rfl ?_
          refine xo_rd (rd_pickt rfl rfl) rfl ?_
          refine xo_rd (rd_move rfl) rfl ?_
          refine xo_grd rfl rfl (rd_fieldAddr rfl) rfl ?_
          refine xo_grd rfl rfl (rd_load1 rfl (Cl.o0 rfl)) rfl ?_
          refine xo_grd rfl rfl (rd_len rfl) rfl ?_
          refine xo_grd rfl rfl (rd_eql rfl rfl) rfl ?_
          refine xo_rd (rd_pickt rfl rfl) rfl ?_
          refine xo_rd (rd_move rfl) rfl ?_
          refine xo_dec 150 rfl (fun hz2 => ?_) (fun hz2 => (by exfalso; omega))
          refine xo_grd rfl rfl (rd_loadB rfl Kn.o1 (by rfl)) rfl ?_
          refine xo_gef rfl rfl rfl (ef_call rfl (XF.mono (xf_size3 (.ext ea) 262156 hsz none (some ⟨r81, 0, none⟩) none 0 262140 0 0 262140 0 rfl hla rfl (Nat.zero_le _) (by show ea.length ≤ 1000000; omega) (Nat.zero_le _) (⟨by decide, by decide⟩ : By 0)) ?_))
          rintro v L' ⟨rfl, rfl⟩
          refine xo_grd rfl rfl (rd_eql rfl rfl) rfl ?_
          refine xo_rd (rd_pickt rfl rfl) rfl ?_
          refine xo_rd (rd_move rfl) rfl ?_
          refine xo_gef rfl rfl rfl (ef_call rfl (XF.mono (xf_any (fun W => xf_works)) ?_))
          rintro v L' ⟨rfl, rfl⟩
          refine xo_rd (rd_pickt rfl rfl) rfl ?_
          refine xo_rd (rd_assign rfl) rfl ?_
          refine xo_nil ?_
          refine xq_seq ?_
          refine xc_ret ?_
          exact xq_ret1 (.inl rfl) Try.results6 rfl (rfl)
end Go.Proofs.Ytpcmnbagalhjiaa.X
