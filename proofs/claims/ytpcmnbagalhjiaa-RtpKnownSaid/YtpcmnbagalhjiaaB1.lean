/-
  The reference writes a packet: a walk of my own.
-/
import Derived.Test.YtpcmnbagalhjiaaA9
namespace Go.Proofs.Ytpcmnbagalhjiaa.X
open Go Go.RowKit
set_option linter.unusedVariables false
set_option linter.unusedSimpArgs false
section
variable {P : Program} {W : World} {n : Nat} {L : List Blk} {E : List (Nat × Value)} {d : Option Nat} {t : TypeId} {pos : String} {after : Array Edge} {g : Option (Nat × Bool)}
theorem EF.subK {o : Oper} {K : Value → List Blk → Prop} (h : EF P W n L E o (fun v L' => ∃ L'', L''.Sublist L' ∧ K v L'')) : EF P W n L E o K := by
  refine ⟨fun a w ha hw => ?_⟩
  have := h.run a w ha hw
  revert this
  generalize (execOp a.eval o).run P w = r
  intro this
  unfold effUp at this ⊢
  split
  · obtain ⟨L', h1, L'', h2, h3⟩ := this; exact ⟨L'', h1.sub h2, h3⟩
  · obtain ⟨L', h1, L'', h2, h3⟩ := this; exact ⟨L'', h1.sub h2, h3⟩
  · exact Calls.mono this fun e w'' ⟨v, he, L', h1, L'', h2, h3⟩ => ⟨v, he, L'', h1.sub h2, h3⟩
  · simp_all
/-- An append; what lay ahead is dropped. -/
theorem ef_appendG (A R l : List Blk) {T e s bt : Nat} {z : Value} {x y : Operand} {v : Value} {m k c : Nat} {p : Option Addr} {xs news : List Value} {K : Value → List Blk → Prop} [hT : Sl P T e] [hI : Inf P e z s bt]
    (hx : ev E x = some v) (hy : ev E y = some (.slice p k c)) (hO : SlO s e v m xs l) (hL : L = A ++ (l ++ R)) (hsrc : Rs W L p news) (hk : news.length = k * s) (h1a : news.all (·.oneCell') = true) (hs : 0 < s)
    (hfit : (m + k) * bt ≤ 140737488355328) (hsm : m + k ≤ 9223372036854775807) (hK : ∀ q c' l', SlO s e (.slice q (m + k) c') (m + k) (xs ++ news) l' → m + k ≤ c' → K (.slice q (m + k) c') (l' ++ R)) :
    EF P W n L E ⟨d, .call ⟨.builtin .append, #[x, y], #[T, T]⟩, t, pos, after, g⟩ K :=
  EF.subK (ef_appendS A R l hx hy hO hL hsrc hk h1a hs hfit hsm fun q c' l' h1 h2 => ⟨_, List.sublist_append_right _ _, hK q c' l' h1 h2⟩)
end
theorem SlO.lit {r e k : Nat} {vs : List Value} (hk : vs.length = k) : SlO 1 e (.slice (some ⟨r, 0, none⟩) k k) k vs [(r, .cells vs.toArray e (0, 0))] :=
  .inr ⟨r, vs.toArray, k, rfl, rfl, Nat.le_refl _, by simp [hk], by simp [← hk]⟩
def putR (q : Pk) : List Int × Int := if q.Right then (putL q, 0) else ([], 2)
theorem xf_rrightT {W : World} {L : List Blk} (q : Pk) (p1 p2 p3 : Option Addr) (c1 c2 c3 : Nat) (b1 : q.cs.length ≤ 1000000) (b2 : q.ex.length ≤ 1000000) (hR : q.Right) : XF Try.prog W 22 #[.agg (q.enc (.slice p1 q.cs.length c1) (.slice p2 q.ex.length c2) (.slice p3 q.pl.length c3)).toArray] L (fun v L' => v = .bool true ∧ L' = L) :=
  (xf_rright q p1 p2 p3 c1 c2 c3 b1 b2).mono fun v L' h => ⟨by rw [h.1, decide_eq_true hR], h.2⟩
theorem xf_rrightF {W : World} {L : List Blk} (q : Pk) (p1 p2 p3 : Option Addr) (c1 c2 c3 : Nat) (b1 : q.cs.length ≤ 1000000) (b2 : q.ex.length ≤ 1000000) (hR : ¬ q.Right) : XF Try.prog W 22 #[.agg (q.enc (.slice p1 q.cs.length c1) (.slice p2 q.ex.length c2) (.slice p3 q.pl.length c3)).toArray] L (fun v L' => v = .bool false ∧ L' = L) :=
  (xf_rright q p1 p2 p3 c1 c2 c3 b1 b2).mono fun v L' h => ⟨by rw [h.1, decide_eq_false hR], h.2⟩
theorem xf_rightT {W : World} {L : List Blk} (q : Pk) (p1 p2 p3 : Option Addr) (c1 c2 c3 : Nat) (b1 : q.cs.length ≤ 1000000) (b2 : q.ex.length ≤ 1000000) (hR : q.Right) : XF Try.prog W 21 #[.agg (q.enc (.slice p1 q.cs.length c1) (.slice p2 q.ex.length c2) (.slice p3 q.pl.length c3)).toArray] L (fun v L' => v = .bool true ∧ L' = L) :=
  (xf_right q p1 p2 p3 c1 c2 c3 b1 b2).mono fun v L' h => ⟨by rw [h.1, decide_eq_true hR], h.2⟩
theorem xf_rightF {W : World} {L : List Blk} (q : Pk) (p1 p2 p3 : Option Addr) (c1 c2 c3 : Nat) (b1 : q.cs.length ≤ 1000000) (b2 : q.ex.length ≤ 1000000) (hR : ¬ q.Right) : XF Try.prog W 21 #[.agg (q.enc (.slice p1 q.cs.length c1) (.slice p2 q.ex.length c2) (.slice p3 q.pl.length c3)).toArray] L (fun v L' => v = .bool false ∧ L' = L) :=
  (xf_right q p1 p2 p3 c1 c2 c3 b1 b2).mono fun v L' h => ⟨by rw [h.1, decide_eq_false hR], h.2⟩
structure OuS where
  k : Nat
  n : Nat
  v : Value
  l : List Blk
set_option maxHeartbeats 4000000 in
theorem xf_rput {W : World} {L : List Blk} (q : Pk) (p1 p2 p3 : Option Addr) (c1 c2 c3 : Nat) (h1 : Rs W L p1 (ints .u32 q.cs)) (h2 : Rs W L p2 (ints .u8 q.ex)) (h3 : Rs W L p3 (ints .u8 q.pl)) (hg : q.Rg) (b1 : q.cs.length ≤ 1000000) (b2 : q.ex.length ≤ 1000000) (b3 : q.pl.length ≤ 1000000) :
    XF Try.prog W 18 #[.agg (q.enc (.slice p1 q.cs.length c1) (.slice p2 q.ex.length c2) (.slice p3 q.pl.length c3)).toArray] L (fun v L' => ∃ s k l, v = .tuple #[.slice s (putR q).1.length k, .int .i64 (putR q).2] ∧ SlO 1 5 (.slice s (putR q).1.length k) (putR q).1.length (ints .u8 (putR q).1) l ∧ L' = l ++ L) := by
  refine xf_enter (args := [_]) Try.func18 rfl Try.ntmps18 rfl ?_
  by_cases hR : q.Right
  · have hpu : putR q = (putL q, 0) := by unfold putR; rw [if_pos hR]
    rw [hpu]
    obtain ⟨mr, ty, sq, tm, ss, cs, hx, pf, ex, pl, pd⟩ := q
    have g1 := hg.ty; have g2 := hg.sq; have g3 := hg.tm; have g4 := hg.ss; have g5 := hg.cs; have g6 := hg.pf; have g7 := hg.pd
    obtain ⟨e1, e2, e3, e4, e5⟩ := hR
    dsimp only [By, U2, U4] at h1 h2 h3 b1 b2 b3 g1 g2 g3 g4 g5 g6 g7 e1 e2 e3 e4 e5
    dsimp only [Pk.enc]
    focus
      refine xc_seq ?_
      refine xc_region ?_
      refine xo_ef rfl (ef_box rfl fun r1 => ?_)
      refine xo_rd (rd_assign rfl) rfl ?_
      refine xo_rd (rd_assign rfl) rfl ?_
      refine xo_nil ?_
      refine xq_seq ?_
      refine xc_seq ?_
      refine xc_seq ?_
      refine xc_region ?_
      refine xo_rd (rd_loadB rfl Kn.o0 (by rfl)) rfl ?_
      refine xo_ef rfl (ef_call rfl (XF.mono (xf_rrightT ⟨mr, ty, sq, tm, ss, cs, hx, pf, ex, pl, pd⟩ p1 p2 p3 c1 c2 c3 b1 b2 ⟨e1, e2, e3, e4, e5⟩) ?_))
      rintro v L' ⟨rfl, rfl⟩
      refine xo_rd (rd_not rfl) rfl ?_
      refine xo_nil ?_
      refine xq_seq ?_
      refine xc_condf rfl ?_
      refine xc_skip ?_
      refine xq_seq ?_
      refine xc_seq ?_
      refine xc_drawML [0, 1, 2, 4, 0, 16, 32, 15, 255] [0, 1, 2, 4, 0, 16, 32, 15, 255] (by kernel_rfl) (by kernel_rfl) (by kernel_rfl) ?_
      refine xm_take 0 (m' := 1) rfl (by kernel_rfl) (by first | exact Sb.refl | exact Sb.nil | (repeat (first | exact Sb.nil | exact Sb.refl | exact Sb.app0 | apply Sb.keep | apply Sb.keepApp | apply Sb.cons | apply Sb.app))) (rd_fieldAddr rfl) rfl (by kernel_rfl) ?_
      refine xm_take 1 (m' := 3) rfl (by kernel_rfl) (by first | exact Sb.refl | exact Sb.nil | (repeat (first | exact Sb.nil | exact Sb.refl | exact Sb.app0 | apply Sb.keep | apply Sb.keepApp | apply Sb.cons | apply Sb.app))) (rd_load1 rfl (Cl.o0 rfl)) rfl (by kernel_rfl) ?_
      refine xm_take 2 (m' := 7) rfl (by kernel_rfl) (by first | exact Sb.refl | exact Sb.nil | (repeat (first | exact Sb.nil | exact Sb.refl | exact Sb.app0 | apply Sb.keep | apply Sb.keepApp | apply Sb.cons | apply Sb.app))) (rd_len rfl) rfl (by kernel_rfl) ?_
      refine xm_take 3 (m' := 15) rfl (by kernel_rfl) (by first | exact Sb.refl | exact Sb.nil | (repeat (first | exact Sb.nil | exact Sb.refl | exact Sb.app0 | apply Sb.keep | apply Sb.keepApp | apply Sb.cons | apply Sb.app))) (rd_addn rfl rfl (by omega) (by omega)) rfl (by kernel_rfl) ?_
      refine xm_take 4 (m' := 31) rfl (by kernel_rfl) (by first | exact Sb.refl | exact Sb.nil | (repeat (first | exact Sb.nil | exact Sb.refl | exact Sb.app0 | apply Sb.keep | apply Sb.keepApp | apply Sb.cons | apply Sb.app))) (rd_fieldAddr rfl) rfl (by kernel_rfl) ?_
      refine xm_take 5 (m' := 63) rfl (by kernel_rfl) (by first | exact Sb.refl | exact Sb.nil | (repeat (first | exact Sb.nil | exact Sb.refl | exact Sb.app0 | apply Sb.keep | apply Sb.keepApp | apply Sb.cons | apply Sb.app))) (rd_load1 rfl (Cl.o0 rfl)) rfl (by kernel_rfl) ?_
      refine xm_take 6 (m' := 127) rfl (by kernel_rfl) (by first | exact Sb.refl | exact Sb.nil | (repeat (first | exact Sb.nil | exact Sb.refl | exact Sb.app0 | apply Sb.keep | apply Sb.keepApp | apply Sb.cons | apply Sb.app))) (rd_convn rfl (by omega) (by omega)) rfl (by kernel_rfl) ?_
      refine xm_take 7 (m' := 255) rfl (by kernel_rfl) (by first | exact Sb.refl | exact Sb.nil | (repeat (first | exact Sb.nil | exact Sb.refl | exact Sb.app0 | apply Sb.keep | apply Sb.keepApp | apply Sb.cons | apply Sb.app))) (rd_assign rfl) rfl (by kernel_rfl) ?_
      refine xm_take 8 (m' := 511) rfl (by kernel_rfl) (by first | exact Sb.refl | exact Sb.nil | (repeat (first | exact Sb.nil | exact Sb.refl | exact Sb.app0 | apply Sb.keep | apply Sb.keepApp | apply Sb.cons | apply Sb.app))) (rd_assign rfl) rfl (by kernel_rfl) ?_
      refine xm_done (by kernel_rfl) ?_
      refine xq_seq ?_
    refine xc_join (ι := Unit) (fun _ => True) (fun _ => (r1, .cells #[.bool mr, .int .u8 ty, .int .u16 sq, .int .u32 tm, .int .u32 ss, .slice p1 cs.length c1, .bool hx, .int .u16 pf, .slice p2 ex.length c2, .slice p3 pl.length c3, .int .u8 pd] 29 (0, 0)) :: L) (fun _ => [(1, .pointer (some ⟨r1, 0, none⟩)), (4, .int .i64 (128 + (cs.length : Int) + if 0 < pd then 32 else 0)), (5, .int .i64 (ty))]) ?_ ?_
    · focus
        refine xc_seq ?_
        refine xc_region ?_
        refine xo_rd (rd_fieldAddr rfl) rfl ?_
        refine xo_rd (rd_load1 rfl (Cl.o0 rfl)) rfl ?_
        refine xo_rd (rd_gtr rfl rfl) rfl ?_
        refine xo_nil ?_
        refine xq_seq ?_
        refine xc_dec rfl (fun hw1 => ?_) (fun hw1 => ?_)
        refine xc_region ?_
        refine xo_rd (rd_move rfl) rfl ?_
        refine xo_rd (rd_addn rfl rfl (by omega) (by omega)) rfl ?_
        refine xo_rd (rd_assign rfl) rfl ?_
        refine xo_nil ?_
        rotate_left
        refine xc_skip ?_
        rotate_left
      · rw [if_pos (by omega)]
        exact xq_joined () trivial rfl (by repeat (first | exact keep_nil | refine keep_cons rfl ?_))
      · rw [if_neg (by omega), Int.add_zero]
        exact xq_joined () trivial rfl (by repeat (first | exact keep_nil | refine keep_cons rfl ?_))
    rintro _ _
    refine xc_join (ι := Unit) (fun _ => True) (fun _ => (r1, .cells #[.bool mr, .int .u8 ty, .int .u16 sq, .int .u32 tm, .int .u32 ss, .slice p1 cs.length c1, .bool hx, .int .u16 pf, .slice p2 ex.length c2, .slice p3 pl.length c3, .int .u8 pd] 29 (0, 0)) :: L) (fun _ => [(1, .pointer (some ⟨r1, 0, none⟩)), (4, .int .i64 (128 + (cs.length : Int) + (if 0 < pd then 32 else 0) + if hx then 16 else 0)), (5, .int .i64 (ty))]) ?_ ?_
    · cases hx
      · focus
          refine xc_seq ?_
          refine xc_region ?_
          refine xo_rd (rd_fieldAddr rfl) rfl ?_
          refine xo_rd (rd_load1 rfl (Cl.o0 rfl)) rfl ?_
          refine xo_nil ?_
          refine xq_seq ?_
          refine xc_condf rfl ?_
          refine xc_skip ?_
        rw [if_neg (show ¬ (false = true) from by decide), Int.add_zero]
        exact xq_joined () trivial rfl (by repeat (first | exact keep_nil | refine keep_cons rfl ?_))
      · focus
          refine xc_seq ?_
          refine xc_region ?_
          refine xo_rd (rd_fieldAddr rfl) rfl ?_
          refine xo_rd (rd_load1 rfl (Cl.o0 rfl)) rfl ?_
          refine xo_nil ?_
          refine xq_seq ?_
          refine xc_condt rfl ?_
          refine xc_region ?_
          refine xo_rd (rd_move rfl) rfl ?_
          refine xo_rd (rd_addn rfl rfl (by omega) (by omega)) rfl ?_
          refine xo_rd (rd_assign rfl) rfl ?_
          refine xo_nil ?_
        rw [if_pos rfl]
        exact xq_joined () trivial rfl (by repeat (first | exact keep_nil | refine keep_cons rfl ?_))
    rintro _ _
    refine xc_join (ι := Unit) (fun _ => True) (fun _ => (r1, .cells #[.bool mr, .int .u8 ty, .int .u16 sq, .int .u32 tm, .int .u32 ss, .slice p1 cs.length c1, .bool hx, .int .u16 pf, .slice p2 ex.length c2, .slice p3 pl.length c3, .int .u8 pd] 29 (0, 0)) :: L) (fun _ => [(1, .pointer (some ⟨r1, 0, none⟩)), (4, .int .i64 (128 + (cs.length : Int) + (if 0 < pd then 32 else 0) + if hx then 16 else 0)), (5, .int .i64 (ty + if mr then 128 else 0))]) ?_ ?_
    · cases mr
      · focus
          refine xc_seq ?_
          refine xc_region ?_
          refine xo_rd (rd_fieldAddr rfl) rfl ?_
          refine xo_rd (rd_load1 rfl (Cl.o0 rfl)) rfl ?_
          refine xo_nil ?_
          refine xq_seq ?_
          refine xc_condf rfl ?_
          refine xc_skip ?_
        rw [if_neg (show ¬ (false = true) from by decide), Int.add_zero]
        exact xq_joined () trivial rfl (by repeat (first | exact keep_nil | refine keep_cons rfl ?_))
      · focus
          refine xc_seq ?_
          refine xc_region ?_
          refine xo_rd (rd_fieldAddr rfl) rfl ?_
          refine xo_rd (rd_load1 rfl (Cl.o0 rfl)) rfl ?_
          refine xo_nil ?_
          refine xq_seq ?_
          refine xc_condt rfl ?_
          refine xc_region ?_
          refine xo_rd (rd_move rfl) rfl ?_
          refine xo_rd (rd_addn rfl rfl (by omega) (by omega)) rfl ?_
          refine xo_rd (rd_assign rfl) rfl ?_
          refine xo_nil ?_
        rw [if_pos rfl]
        exact xq_joined () trivial rfl (by repeat (first | exact keep_nil | refine keep_cons rfl ?_))
    rintro _ _
    obtain ⟨ff, hff⟩ : ∃ ff, ff = 128 + (cs.length : Int) + (if 0 < pd then 32 else 0) + if hx then 16 else 0 := ⟨_, rfl⟩
    obtain ⟨gg, hgg⟩ : ∃ gg, gg = ty + if mr then 128 else 0 := ⟨_, rfl⟩
    have hffr : 0 ≤ ff ∧ ff ≤ 255 := by rw [hff]; constructor <;> (split <;> split <;> omega)
    have hggr : 0 ≤ gg ∧ gg ≤ 255 := by rw [hgg]; constructor <;> (split <;> omega)
    rw [← hff, ← hgg]
    have hbx : ∀ L', (r1, .cells #[.bool mr, .int .u8 ty, .int .u16 sq, .int .u32 tm, .int .u32 ss, .slice p1 cs.length c1, .bool hx, .int .u16 pf, .slice p2 ex.length c2, .slice p3 pl.length c3, .int .u8 pd] 29 (0, 0)) ∈ L' → ∀ i v, [Value.bool mr, .int .u8 ty, .int .u16 sq, .int .u32 tm, .int .u32 ss, .slice p1 cs.length c1, .bool hx, .int .u16 pf, .slice p2 ex.length c2, .slice p3 pl.length c3, .int .u8 pd][i]? = some v → Cl W L' r1 i v := fun L' hL' i v hv => Cl.own hL' (by simpa using hv)
    focus
      refine xc_seq ?_
      refine xc_region ?_
      refine xo_rd (rd_move rfl) rfl ?_
      refine xo_rd (rd_convn rfl (by omega) (by omega)) rfl ?_
      refine xo_rd (rd_move rfl) rfl ?_
      refine xo_rd (rd_convn rfl (by omega) (by omega)) rfl ?_
      refine xo_ef rfl (ef_buildL (T := 22) (len := 2) (s := 1) (cells := (ints .u8 [ff, gg]).toArray) rfl (by decide) (by decide) (by kernel_rfl) fun r36 => ?_)
      refine xo_rd (rd_assign rfl) rfl ?_
      refine xo_nil ?_
      refine xq_seq ?_
    focus
      refine xc_seq ?_
      refine xc_region ?_
      refine xo_rd (rd_move rfl) rfl ?_
      refine xo_rd (rd_fieldAddr rfl) rfl ?_
      refine xo_rd (rd_load1 rfl (hbx _ (by simp) _ _ rfl)) rfl ?_
      refine xo_rd (rd_convn rfl (by omega) (by omega)) rfl ?_
      refine xo_ef rfl (ef_call rfl (XF.mono (xf_bytes sq 2 (by omega) (by omega) (by omega)) ?_))
      rintro v L' ⟨pa, ca, la, rfl, hOa, rfl⟩
      refine xo_ef rfl (ef_appendG la ((r1, .cells #[.bool mr, .int .u8 ty, .int .u16 sq, .int .u32 tm, .int .u32 ss, .slice p1 cs.length c1, .bool hx, .int .u16 pf, .slice p2 ex.length c2, .slice p3 pl.length c3, .int .u8 pd] 29 (0, 0)) :: L) [(r36, .cells (ints .u8 [ff, gg]).toArray 5 (0, 0))] (news := ints .u8 (beK 2 sq)) rfl rfl (SlO.lit rfl) rfl (hOa.rs (by intro z hz; simp [hz])) (by rw [ints_len, beK_len]) (ints_one _ _) (by decide) (by omega) (by omega) fun qb kb lb hOb hcb => ?_)
      refine xo_rd (rd_assign rfl) rfl ?_
      refine xo_nil ?_
      refine xq_seq ?_
    focus
      refine xc_seq ?_
      refine xc_region ?_
      refine xo_rd (rd_move rfl) rfl ?_
      refine xo_rd (rd_fieldAddr rfl) rfl ?_
      refine xo_rd (rd_load1 rfl (hbx _ (by simp) _ _ rfl)) rfl ?_
      refine xo_rd (rd_convn rfl (by omega) (by omega)) rfl ?_
      refine xo_ef rfl (ef_call rfl (XF.mono (xf_bytes tm 4 (by omega) (by omega) (by omega)) ?_))
      rintro v L' ⟨pc, cc, lc, rfl, hOc, rfl⟩
      refine xo_ef rfl (ef_appendG lc ((r1, .cells #[.bool mr, .int .u8 ty, .int .u16 sq, .int .u32 tm, .int .u32 ss, .slice p1 cs.length c1, .bool hx, .int .u16 pf, .slice p2 ex.length c2, .slice p3 pl.length c3, .int .u8 pd] 29 (0, 0)) :: L) lb (news := ints .u8 (beK 4 tm)) rfl rfl hOb rfl (hOc.rs (by intro z hz; simp [hz])) (by rw [ints_len, beK_len]) (ints_one _ _) (by decide) (by omega) (by omega) fun qd kd ld hOd hcd => ?_)
      refine xo_rd (rd_assign rfl) rfl ?_
      refine xo_nil ?_
      refine xq_seq ?_
    focus
      refine xc_seq ?_
      refine xc_region ?_
      refine xo_rd (rd_move rfl) rfl ?_
      refine xo_rd (rd_fieldAddr rfl) rfl ?_
      refine xo_rd (rd_load1 rfl (hbx _ (by simp) _ _ rfl)) rfl ?_
      refine xo_rd (rd_convn rfl (by omega) (by omega)) rfl ?_
      refine xo_ef rfl (ef_call rfl (XF.mono (xf_bytes ss 4 (by omega) (by omega) (by omega)) ?_))
      rintro v L' ⟨pe, ce, le, rfl, hOe, rfl⟩
      refine xo_ef rfl (ef_appendG le ((r1, .cells #[.bool mr, .int .u8 ty, .int .u16 sq, .int .u32 tm, .int .u32 ss, .slice p1 cs.length c1, .bool hx, .int .u16 pf, .slice p2 ex.length c2, .slice p3 pl.length c3, .int .u8 pd] 29 (0, 0)) :: L) ld (news := ints .u8 (beK 4 ss)) rfl rfl hOd rfl (hOe.rs (by intro z hz; simp [hz])) (by rw [ints_len, beK_len]) (ints_one _ _) (by decide) (by omega) (by omega) fun qf kf lf hOf hcf => ?_)
      refine xo_rd (rd_assign rfl) rfl ?_
      refine xo_nil ?_
      refine xq_seq ?_
    have hhd : hdL ⟨mr, ty, sq, tm, ss, cs, hx, pf, ex, pl, pd⟩ = [ff, gg] ++ be2 sq ++ be4 tm ++ be4 ss := by rw [hff, hgg]; rfl
    rw [← ints_app, ← ints_app, ← ints_app, beK_2, beK_4, beK_4, ← hhd] at hOf
    generalize hHD : hdL ⟨mr, ty, sq, tm, ss, cs, hx, pf, ex, pl, pd⟩ = hd at *
    clear hOa hOb hOc hOd hOe
    refine xc_join (ι := OuS) (fun s => s.n = 12 + 4 * cs.length ∧ SlO 1 5 s.v s.n (ints .u8 (hd ++ cs.flatMap be4)) s.l) (fun s => s.l ++ ((r1, .cells #[.bool mr, .int .u8 ty, .int .u16 sq, .int .u32 tm, .int .u32 ss, .slice p1 cs.length c1, .bool hx, .int .u16 pf, .slice p2 ex.length c2, .slice p3 pl.length c3, .int .u8 pd] 29 (0, 0)) :: L)) (fun s => [(1, .pointer (some ⟨r1, 0, none⟩)), (6, s.v)]) ?_ ?_
    · skip
      focus
        refine xc_seq ?_
        refine xc_region ?_
        refine xo_rd (rd_assign rfl) rfl ?_
        refine xo_nil ?_
        refine xq_seq ?_
        refine xc_block ?_
      refine xc_loopI (ι := OuS) (fun s => s.k ≤ cs.length ∧ s.n = 12 + 4 * s.k ∧ SlO 1 5 s.v s.n (ints .u8 (hd ++ (cs.take s.k).flatMap be4)) s.l) (fun s => cs.length - s.k) (fun s => s.l ++ ((r1, .cells #[.bool mr, .int .u8 ty, .int .u16 sq, .int .u32 tm, .int .u32 ss, .slice p1 cs.length c1, .bool hx, .int .u16 pf, .slice p2 ex.length c2, .slice p3 pl.length c3, .int .u8 pd] 29 (0, 0)) :: L)) (fun s => [(1, .pointer (some ⟨r1, 0, none⟩)), (6, s.v), (7, .int .i64 s.k)]) ⟨0, _, _, lf⟩ ⟨Nat.zero_le _, rfl, by dsimp only; rw [List.take_zero, List.flatMap_nil, List.append_nil]; exact hOf⟩ rfl (by repeat (first | exact keep_nil | refine keep_cons rfl ?_)) ?_
      rintro ⟨k, n, v, l⟩ ⟨hk, hn, hO⟩
      dsimp only at hk hn hO ⊢
      subst hn
      by_cases hkl : k < cs.length
      · obtain ⟨b, o, rfl, hc⟩ := h1.int (i := k) hkl
        have hcA := fun L' (hL : ∀ z, z ∈ L → z ∈ L') => (show Cl W L' b (o + k * 1) (.int .u32 cs[k]) from by obtain ⟨vs, T, fr, z1, z2⟩ := hc; exact ⟨vs, T, fr, z1.imp id (hL _), z2⟩)
        have hck := g5 cs[k] (List.getElem_mem _)
        focus
          refine xc_seq ?_
          refine xc_seq ?_
          refine xc_region ?_
          refine xo_rd (rd_move rfl) rfl ?_
          refine xo_rd (rd_fieldAddr rfl) rfl ?_
          refine xo_rd (rd_load1 rfl (hbx _ (by simp) _ _ rfl)) rfl ?_
          refine xo_rd (rd_len rfl) rfl ?_
          refine xo_rd (rd_lss rfl rfl) rfl ?_
          refine xo_nil ?_
          refine xq_seq ?_
          refine xc_dec rfl (fun hw1 => ?_) (fun hw1 => (by exfalso; omega))
          refine xc_skip ?_
          refine xq_seq ?_
          refine xc_seq ?_
          refine xc_block ?_
          refine xc_region ?_
          refine xo_rd (rd_move rfl) rfl ?_
          refine xo_rd (rd_fieldAddr rfl) rfl ?_
          refine xo_rd (rd_load1 rfl (hbx _ (by simp) _ _ rfl)) rfl ?_
          refine xo_rd (rd_move rfl) rfl ?_
          refine xo_rd (rd_indexAddr rfl rfl (by omega) (by omega)) rfl ?_
          refine xo_rd (rd_load1 rfl (hcA _ (by intro z hz; simp [hz]))) rfl ?_
          refine xo_rd (rd_convn rfl (by omega) (by omega)) rfl ?_
          refine xo_ef rfl (ef_call rfl (XF.mono (xf_bytes cs[k] 4 (by omega) (by omega) (by omega)) ?_))
          rintro v L' ⟨pa, ca, la, rfl, hOa, rfl⟩
          refine xo_ef rfl (ef_appendG la _ l (news := ints .u8 (beK 4 cs[k])) rfl rfl hO rfl (hOa.rs (by intro z hz; simp [hz])) (by rw [ints_len, beK_len]) (ints_one _ _) (by decide) (by omega) (by omega) fun qb kb lb hOb hcb => ?_)
          refine xo_rd (rd_assign rfl) rfl ?_
          refine xo_nil ?_
          refine xq_block ?_
          refine xq_seq ?_
          refine xc_region ?_
          refine xo_rd (rd_move rfl) rfl ?_
          refine xo_rd (rd_addn rfl rfl (by omega) (by omega)) rfl ?_
          refine xo_rd (rd_assign rfl) rfl ?_
          refine xo_nil ?_
        refine xq_roundI (⟨k + 1, 12 + 4 * k + 4, _, lb⟩ : OuS) ⟨by dsimp only; omega, by dsimp only; omega, ?_⟩ (by dsimp only; omega) rfl (by repeat (first | exact keep_nil | refine keep_cons rfl ?_))
        dsimp only
        rw [← ints_app, beK_4, List.append_assoc] at hOb
        rw [List.take_add_one, List.getElem?_eq_getElem hkl, List.flatMap_append]
        simpa using hOb
      · focus
          refine xc_seq ?_
          refine xc_seq ?_
          refine xc_region ?_
          refine xo_rd (rd_move rfl) rfl ?_
          refine xo_rd (rd_fieldAddr rfl) rfl ?_
          refine xo_rd (rd_load1 rfl (hbx _ (by simp) _ _ rfl)) rfl ?_
          refine xo_rd (rd_len rfl) rfl ?_
          refine xo_rd (rd_lss rfl rfl) rfl ?_
          refine xo_nil ?_
          refine xq_seq ?_
          refine xc_dec rfl (fun hw1 => (by exfalso; omega)) (fun hw1 => ?_)
          refine xc_exit ?_
          refine xq_then_exit ?_
          refine xq_then_exit ?_
          refine xq_block_hit ?_
        rw [List.take_of_length_le (by omega)] at hO
        exact xq_joined (⟨k, 12 + 4 * k, v, l⟩ : OuS) ⟨by dsimp only; omega, hO⟩ rfl (by repeat (first | exact keep_nil | refine keep_cons rfl ?_))
    rintro ⟨_, n1, v1, l1⟩ ⟨hn1, hO1⟩
    dsimp only at hn1 hO1 ⊢
    have hex : extL ⟨mr, ty, sq, tm, ss, cs, hx, pf, ex, pl, pd⟩ = if hx then be2 pf ++ be2 ((ex.length : Int) / 4) ++ ex else [] := rfl
    refine xc_join (ι := OuS) (fun s => s.n ≤ n1 + 4 + ex.length ∧ SlO 1 5 s.v s.n (ints .u8 (hd ++ cs.flatMap be4 ++ extL ⟨mr, ty, sq, tm, ss, cs, hx, pf, ex, pl, pd⟩)) s.l) (fun s => s.l ++ ((r1, .cells #[.bool mr, .int .u8 ty, .int .u16 sq, .int .u32 tm, .int .u32 ss, .slice p1 cs.length c1, .bool hx, .int .u16 pf, .slice p2 ex.length c2, .slice p3 pl.length c3, .int .u8 pd] 29 (0, 0)) :: L)) (fun s => [(1, .pointer (some ⟨r1, 0, none⟩)), (6, s.v)]) ?_ ?_
    · skip
      cases hx
      · focus
          refine xc_seq ?_
          refine xc_region ?_
          refine xo_rd (rd_fieldAddr rfl) rfl ?_
          refine xo_rd (rd_load1 rfl (hbx _ (by simp) _ _ rfl)) rfl ?_
          refine xo_nil ?_
          refine xq_seq ?_
          refine xc_condf rfl ?_
          refine xc_skip ?_
        refine xq_joined (⟨0, n1, v1, l1⟩ : OuS) ⟨by dsimp only; omega, ?_⟩ rfl (by repeat (first | exact keep_nil | refine keep_cons rfl ?_))
        dsimp only
        rw [hex, if_neg (by decide), List.append_nil]
        exact hO1
      · skip
        focus
          refine xc_seq ?_
          refine xc_region ?_
          refine xo_rd (rd_fieldAddr rfl) rfl ?_
          refine xo_rd (rd_load1 rfl (hbx _ (by simp) _ _ rfl)) rfl ?_
          refine xo_nil ?_
          refine xq_seq ?_
          refine xc_condt rfl ?_
          refine xc_seq ?_
          refine xc_region ?_
          refine xo_rd (rd_move rfl) rfl ?_
          refine xo_rd (rd_fieldAddr rfl) rfl ?_
          refine xo_rd (rd_load1 rfl (hbx _ (by simp) _ _ rfl)) rfl ?_
          refine xo_rd (rd_convn rfl (by omega) (by omega)) rfl ?_
          refine xo_ef rfl (ef_call rfl (XF.mono (xf_bytes pf 2 (by omega) (by omega) (by omega)) ?_))
          rintro v L' ⟨pa, ca, la, rfl, hOa, rfl⟩
          refine xo_ef rfl (ef_appendG la _ l1 (news := ints .u8 (beK 2 pf)) rfl rfl hO1 rfl (hOa.rs (by intro z hz; simp [hz])) (by rw [ints_len, beK_len]) (ints_one _ _) (by decide) (by omega) (by omega) fun qb kb lb hOb hcb => ?_)
          refine xo_rd (rd_assign rfl) rfl ?_
          refine xo_nil ?_
          refine xq_seq ?_
        focus
          refine xc_seq ?_
          refine xc_region ?_
          refine xo_rd (rd_move rfl) rfl ?_
          refine xo_rd (rd_fieldAddr rfl) rfl ?_
          refine xo_rd (rd_load1 rfl (hbx _ (by simp) _ _ rfl)) rfl ?_
          refine xo_rd (rd_len rfl) rfl ?_
          refine xo_rd (rd_quon rfl rfl (by omega) (by omega) (by omega) (by omega)) rfl ?_
          refine xo_rd (rd_convn rfl (by omega) (by omega)) rfl ?_
          refine xo_ef rfl (ef_call rfl (XF.mono (xf_bytes ((ex.length : Int) / 4) 2 (by omega) (by omega) (by omega)) ?_))
          rintro v L' ⟨pc, cc, lc, rfl, hOc, rfl⟩
          refine xo_ef rfl (ef_appendG lc _ lb (news := ints .u8 (beK 2 ((ex.length : Int) / 4))) rfl rfl hOb rfl (hOc.rs (by intro z hz; simp [hz])) (by rw [ints_len, beK_len]) (ints_one _ _) (by decide) (by omega) (by omega) fun qd kd ld hOd hcd => ?_)
          refine xo_rd (rd_assign rfl) rfl ?_
          refine xo_nil ?_
          refine xq_seq ?_
          refine xc_region ?_
          refine xo_rd (rd_move rfl) rfl ?_
          refine xo_rd (rd_fieldAddr rfl) rfl ?_
          refine xo_rd (rd_load1 rfl (hbx _ (by simp) _ _ rfl)) rfl ?_
        focus
          refine xo_ef rfl (ef_appendG [] _ ld (news := ints .u8 ex) rfl rfl hOd rfl (h2.mono (by intro z hz; simp [hz])) (by rw [ints_len, Nat.mul_one]) (ints_one _ _) (by decide) (by omega) (by omega) fun qe ke le hOe hce => ?_)
          refine xo_rd (rd_assign rfl) rfl ?_
          refine xo_nil ?_
        refine xq_joined (⟨0, n1 + 2 + 2 + ex.length, _, le⟩ : OuS) ⟨by dsimp only; omega, ?_⟩ rfl (by repeat (first | exact keep_nil | refine keep_cons rfl ?_))
        dsimp only
        rw [hex, if_pos rfl]
        rw [← ints_app, ← ints_app, ← ints_app, beK_2, beK_2] at hOe
        simpa using hOe
    rintro ⟨_, n2, v2, l2⟩ ⟨hn2, hO2⟩
    dsimp only at hn2 hO2 ⊢
    focus
      refine xc_seq ?_
      refine xc_region ?_
      refine xo_rd (rd_move rfl) rfl ?_
      refine xo_rd (rd_fieldAddr rfl) rfl ?_
      refine xo_rd (rd_load1 rfl (hbx _ (by simp) _ _ rfl)) rfl ?_
      refine xo_ef rfl (ef_appendG [] ((r1, .cells #[.bool mr, .int .u8 ty, .int .u16 sq, .int .u32 tm, .int .u32 ss, .slice p1 cs.length c1, .bool hx, .int .u16 pf, .slice p2 ex.length c2, .slice p3 pl.length c3, .int .u8 pd] 29 (0, 0)) :: L) l2 (news := ints .u8 pl) rfl rfl hO2 rfl (h3.mono (by intro z hz; simp [hz])) (by rw [ints_len, Nat.mul_one]) (ints_one _ _) (by decide) (by omega) (by omega) fun q3 k3 l3 hO3 hc3 => ?_)
      refine xo_rd (rd_assign rfl) rfl ?_
      refine xo_nil ?_
      refine xq_seq ?_
    rw [← ints_app] at hO3
    generalize hX3 : hd ++ cs.flatMap be4 ++ extL ⟨mr, ty, sq, tm, ss, cs, hx, pf, ex, pl, pd⟩ ++ pl = X3 at hO3
    obtain ⟨n3, hn3⟩ : ∃ n3, n3 = n2 + pl.length := ⟨_, rfl⟩
    rw [← hn3] at hO3 ⊢
    refine xc_join (ι := OuS) (fun s => s.n ≤ n3 + 300 ∧ SlO 1 5 s.v s.n (ints .u8 (X3 ++ List.replicate (pd - 1).toNat 0)) s.l) (fun s => s.l ++ ((r1, .cells #[.bool mr, .int .u8 ty, .int .u16 sq, .int .u32 tm, .int .u32 ss, .slice p1 cs.length c1, .bool hx, .int .u16 pf, .slice p2 ex.length c2, .slice p3 pl.length c3, .int .u8 pd] 29 (0, 0)) :: L)) (fun s => [(1, .pointer (some ⟨r1, 0, none⟩)), (6, s.v)]) ?_ ?_
    · skip
      focus
        refine xc_seq ?_
        refine xc_region ?_
        refine xo_rd (rd_assign rfl) rfl ?_
        refine xo_nil ?_
        refine xq_seq ?_
        refine xc_block ?_
      refine xc_loopI (ι := OuS) (fun s => (s.k : Int) ≤ (pd - 1).toNat ∧ s.n = n3 + s.k ∧ SlO 1 5 s.v s.n (ints .u8 (X3 ++ List.replicate s.k 0)) s.l) (fun s => (pd - 1).toNat - s.k) (fun s => s.l ++ ((r1, .cells #[.bool mr, .int .u8 ty, .int .u16 sq, .int .u32 tm, .int .u32 ss, .slice p1 cs.length c1, .bool hx, .int .u16 pf, .slice p2 ex.length c2, .slice p3 pl.length c3, .int .u8 pd] 29 (0, 0)) :: L)) (fun s => [(1, .pointer (some ⟨r1, 0, none⟩)), (6, s.v), (8, .int .i64 ((s.k : Int) + 1))]) ⟨0, n3, _, l3⟩ ⟨by dsimp only; omega, rfl, by dsimp only; rw [List.replicate_zero, List.append_nil]; exact hO3⟩ rfl (by repeat (first | exact keep_nil | refine keep_cons rfl ?_)) ?_
      rintro ⟨k, n, v, l⟩ ⟨hk, hn, hO⟩
      dsimp only at hk hn hO ⊢
      subst hn
      focus
        refine xc_seq ?_
        refine xc_seq ?_
        refine xc_region ?_
        refine xo_rd (rd_move rfl) rfl ?_
        refine xo_rd (rd_fieldAddr rfl) rfl ?_
        refine xo_rd (rd_load1 rfl (hbx _ (by simp) _ _ rfl)) rfl ?_
        refine xo_rd (rd_convn rfl (by omega) (by omega)) rfl ?_
        refine xo_rd (rd_lss rfl rfl) rfl ?_
        refine xo_nil ?_
        refine xq_seq ?_
        refine xc_dec rfl (fun hw1 => ?_) (fun hw1 => ?_)
        refine xc_skip ?_
        refine xq_seq ?_
        refine xc_seq ?_
        refine xc_block ?_
        refine xc_region ?_
        refine xo_rd (rd_move rfl) rfl ?_
        refine xo_ef rfl (ef_slice1 rfl rfl rfl fun r103 => ?_)
        refine xo_ef rfl (ef_appendG [(r103, .cells #[.int .u8 0] 5 (0, 0))] ((r1, .cells #[.bool mr, .int .u8 ty, .int .u16 sq, .int .u32 tm, .int .u32 ss, .slice p1 cs.length c1, .bool hx, .int .u16 pf, .slice p2 ex.length c2, .slice p3 pl.length c3, .int .u8 pd] 29 (0, 0)) :: L) l (news := [.int .u8 0]) rfl rfl hO rfl (Rs.fresh (List.Mem.head _)) rfl rfl (by decide) (by omega) (by omega) fun qb kb lb hOb hcb => ?_)
        refine xo_rd (rd_assign rfl) rfl ?_
        refine xo_nil ?_
        refine xq_block ?_
        refine xq_seq ?_
        refine xc_region ?_
        refine xo_rd (rd_move rfl) rfl ?_
        refine xo_rd (rd_addn rfl rfl (by omega) (by omega)) rfl ?_
        refine xo_rd (rd_assign rfl) rfl ?_
        refine xo_nil ?_
        rotate_left
        refine xc_exit ?_
        refine xq_then_exit ?_
        refine xq_then_exit ?_
        refine xq_block_hit ?_
        rotate_left
      · refine xq_roundI (⟨k + 1, n3 + k + 1, _, lb⟩ : OuS) ⟨by dsimp only; omega, by dsimp only; omega, ?_⟩ (by dsimp only; omega) rfl (by repeat (first | exact keep_nil | refine keep_cons rfl ?_))
        dsimp only
        rw [List.replicate_succ', ← List.append_assoc, ints_app]
        exact hOb
      · have hkk : k = (pd - 1).toNat := by omega
        rw [← hkk]
        exact xq_joined (⟨k, n3 + k, v, l⟩ : OuS) ⟨by dsimp only; omega, hO⟩ rfl (by repeat (first | exact keep_nil | refine keep_cons rfl ?_))
    rintro ⟨_, n4, v4, l4⟩ ⟨hn4, hO4⟩
    dsimp only at hn4 hO4 ⊢
    have hput : ∀ T, tailL pd = T → putL ⟨mr, ty, sq, tm, ss, cs, hx, pf, ex, pl, pd⟩ = X3 ++ T := fun T h => by
      rw [← hX3, ← h, ← hHD]
      simp only [putL, List.append_assoc]
    focus
      refine xc_seq ?_
      refine xc_seq ?_
      refine xc_region ?_
      refine xo_rd (rd_fieldAddr rfl) rfl ?_
      refine xo_rd (rd_load1 rfl (hbx _ (by simp) _ _ rfl)) rfl ?_
      refine xo_rd (rd_gtr rfl rfl) rfl ?_
      refine xo_nil ?_
      refine xq_seq ?_
      refine xc_dec rfl (fun hw1 => ?_) (fun hw1 => ?_)
      refine xc_region ?_
      refine xo_rd (rd_move rfl) rfl ?_
      refine xo_rd (rd_fieldAddr rfl) rfl ?_
      refine xo_rd (rd_load1 rfl (hbx _ (by simp) _ _ rfl)) rfl ?_
      refine xo_ef rfl (ef_slice1 rfl rfl rfl fun r111 => ?_)
      refine xo_ef rfl (ef_appendG [(r111, .cells #[.int .u8 pd] 5 (0, 0))] _ l4 (news := [.int .u8 pd]) rfl rfl hO4 rfl (Rs.fresh (List.Mem.head _)) rfl rfl (by decide) (by omega) (by omega) fun qb kb lb hOb hcb => ?_)
      refine xo_rd (rd_assign rfl) rfl ?_
      refine xo_nil ?_
      refine xq_seq ?_
      refine xc_seq ?_
      refine xc_region ?_
      refine xo_rd (rd_move rfl) rfl ?_
      refine xo_rd (rd_assign rfl) rfl ?_
      refine xo_rd (rd_assign rfl) rfl ?_
      refine xo_nil ?_
      refine xq_seq ?_
      refine xc_ret ?_
      rotate_left
      refine xc_skip ?_
      refine xq_seq ?_
      refine xc_seq ?_
      refine xc_region ?_
      refine xo_rd (rd_move rfl) rfl ?_
      refine xo_rd (rd_assign rfl) rfl ?_
      refine xo_rd (rd_assign rfl) rfl ?_
      refine xo_nil ?_
      refine xq_seq ?_
      refine xc_ret ?_
      rotate_left
    · have hT : tailL pd = List.replicate (pd - 1).toNat 0 ++ [pd] := by unfold tailL; rw [if_pos (by omega)]
      rw [hput _ hT]
      rw [show ints .u8 (X3 ++ List.replicate (pd - 1).toNat 0) ++ [.int .u8 pd] = ints .u8 (X3 ++ (List.replicate (pd - 1).toNat 0 ++ [pd])) from by simp [ints]] at hOb
      have hle : (X3 ++ (List.replicate (pd - 1).toNat 0 ++ [pd])).length = n4 + 1 := by have := hOb.len; rw [ints_len] at this; omega
      rw [hle]
      exact xq_sub (L' := lb ++ L) (List.Sublist.append_left (List.sublist_cons_self _ _) lb) (xq_ret2 (.inl rfl) Try.results18 rfl rfl ⟨qb, kb, lb, rfl, hOb, rfl⟩)
    · have hp0 : pd = 0 := by omega
      subst hp0
      have hT : tailL 0 = [] := rfl
      rw [hput _ hT, List.append_nil]
      rw [show ((0 : Int) - 1).toNat = 0 from rfl, List.replicate_zero, List.append_nil] at hO4
      obtain ⟨q4, k4, rfl, hO4, _⟩ := hO4.opn
      have hle : X3.length = n4 := by have := hO4.len; rw [ints_len] at this; omega
      rw [hle]
      exact xq_sub (L' := l4 ++ L) (List.Sublist.append_left (List.sublist_cons_self _ _) l4) (xq_ret2 (.inl rfl) Try.results18 rfl rfl ⟨q4, k4, l4, rfl, hO4, rfl⟩)
  · have hpu : putR q = ([], 2) := by unfold putR; rw [if_neg hR]
    rw [hpu]
    obtain ⟨mr, ty, sq, tm, ss, cs, hx, pf, ex, pl, pd⟩ := q
    dsimp only [Pk.enc]
    focus
      refine xc_seq ?_
      refine xc_region ?_
      refine xo_ef rfl (ef_box rfl fun r1 => ?_)
      refine xo_rd (rd_assign rfl) rfl ?_
      refine xo_rd (rd_assign rfl) rfl ?_
      refine xo_nil ?_
      refine xq_seq ?_
      refine xc_seq ?_
      refine xc_seq ?_
      refine xc_region ?_
      refine xo_rd (rd_loadB rfl Kn.o0 (by rfl)) rfl ?_
      refine xo_ef rfl (ef_call rfl (XF.mono (xf_rrightF ⟨mr, ty, sq, tm, ss, cs, hx, pf, ex, pl, pd⟩ p1 p2 p3 c1 c2 c3 b1 b2 hR) ?_))
      rintro v L' ⟨rfl, rfl⟩
      refine xo_rd (rd_not rfl) rfl ?_
      refine xo_nil ?_
      refine xq_seq ?_
      refine xc_condt rfl ?_
      refine xc_seq ?_
      refine xc_region ?_
      refine xo_rd (rd_assign rfl) rfl ?_
      refine xo_rd (rd_assign rfl) rfl ?_
      refine xo_nil ?_
      refine xq_seq ?_
      refine xc_ret ?_
      refine xq_then_ret ?_
    exact xq_sub (List.sublist_cons_self _ _) (xq_ret2 (.inl rfl) Try.results18 rfl rfl ⟨none, 0, [], rfl, SlO.nil, rfl⟩)
end Go.Proofs.Ytpcmnbagalhjiaa.X
