/-
  Texts of my own, put together: walks and laws for this seat. No condition.
-/
import Derived.Test.YtohlaabclifbfaaM7
/-
  RtcpBack: a walk of my own.
-/
namespace Go.Proofs.Ytohlaabclifbfaa.X
open Go Go.RowKit
set_option linter.unusedVariables false
set_option linter.unusedSimpArgs false
theorem be2_by {n : Int} : ∀ x, x ∈ be2 n → By x := fun x hx => by
  simp only [be2, List.mem_cons, List.not_mem_nil, or_false] at hx
  unfold By
  rcases hx with rfl | rfl <;> omega
theorem tailL_by {pd : Int} (h : By pd) : ∀ x, x ∈ tailL pd → By x := fun x hx => by
  unfold tailL at hx
  split at hx
  · rcases List.mem_append.1 hx with h1 | h1
    · rw [(List.mem_replicate.1 h1).2]; exact ⟨by decide, by decide⟩
    · rw [List.mem_singleton.1 h1]; exact h
  · cases hx
theorem putP_by {q : Pc} (hg : q.Rg) (hR : q.Right) : ∀ x, x ∈ putP q → By x := fun x hx => by
  unfold putP at hx
  rcases List.mem_append.1 hx with h1 | h1
  · rcases List.mem_append.1 h1 with h2 | h2
    · simp only [List.mem_cons, List.not_mem_nil, or_false] at h2
      rcases h2 with rfl | rfl
      · have h3 := hR.1
        have h4 := hg.ct.1
        unfold fst6 By
        split <;> omega
      · exact hg.kd
    · exact be2_by x h2
  · rcases List.mem_append.1 h1 with h2 | h2
    · exact hg.bd x h2
    · exact tailL_by hg.pd x h2
theorem okJ_all {l : List Pc} (h : okJ l = true) : ∀ q, q ∈ l → q.Right := fun q hq => by
  obtain ⟨j, hj, rfl⟩ := List.getElem_of_mem hq
  exact ((okJ_iff l).1 h j hj).1
theorem flat_by {l : List Pc} (h : okJ l = true) (hg : ∀ q, q ∈ l → q.Rg) : ∀ x, x ∈ l.flatMap putP → By x := fun x hx => by
  obtain ⟨q, hq, hm⟩ := List.mem_flatMap.1 hx
  exact putP_by (hg q hq) (okJ_all h q hq) x hm
theorem flat_le {l : List Pc} (h : okJ l = true) (hg : ∀ q, q ∈ l → q.Rg) : (l.flatMap putP).length ≤ l.length * 262144 := by
  have : ∀ r : List Pc, (∀ q, q ∈ r → (putP q).length ≤ 262144) → (r.flatMap putP).length ≤ r.length * 262144 := fun r => by
    induction r with
    | nil => intro _; exact Nat.le_refl _
    | cons a r ih => intro h; rw [List.flatMap_cons, List.length_append, List.length_cons]; have := ih fun x hx => h x (List.mem_cons_of_mem _ hx); have := h a (List.mem_cons_self ..); omega
  exact this l fun q hq => putP_le q (hg q hq) (okJ_all h q hq)
theorem flat_ge {l : List Pc} (hg : ∀ q, q ∈ l → q.Rg) : 4 * l.length ≤ (l.flatMap putP).length := by
  induction l with
  | nil => exact Nat.le_refl _
  | cons a r ih => rw [List.flatMap_cons, List.length_append, List.length_cons]; have := ih fun x hx => hg x (List.mem_cons_of_mem _ hx); have := putP_ge a (hg a (List.mem_cons_self ..)); omega
theorem joinL_ok {qs : List Pc} {out : List Int} (h : joinL qs = (out, 0)) : qs ≠ [] ∧ okJ qs = true ∧ isFirst (kind0 qs) = true ∧ out = qs.flatMap putP := by
  unfold joinL at h
  split at h
  · simp at h
  · rename_i h1
    split at h
    · rename_i h2
      split at h
      · rename_i h3
        simp only [Prod.mk.injEq, and_true] at h
        exact ⟨h1, h2, h3, h.symm⟩
      · simp at h
    · simp at h
theorem joinL_of {qs : List Pc} (h1 : qs ≠ []) (h2 : okJ qs = true) (h3 : isFirst (kind0 qs) = true) : joinL qs = (qs.flatMap putP, 0) := by
  unfold joinL
  rw [if_neg h1, if_pos h2, if_pos h3]
theorem joinL_le {qs : List Pc} (hg : ∀ q, q ∈ qs → q.Rg) (hs : ∀ q, q ∈ qs → q.bd.length ≤ 800) : (joinL qs).1.length ≤ qs.length * 1059 := by
  have hfl : (qs.flatMap putP).length ≤ qs.length * 1059 := by
    induction qs with
    | nil => exact Nat.le_refl _
    | cons a r ih =>
      rw [List.flatMap_cons, List.length_append, List.length_cons]
      have h1 := ih (fun x hx => hg x (List.mem_cons_of_mem _ hx)) (fun x hx => hs x (List.mem_cons_of_mem _ hx))
      have h2 := putP_len a (hg a (List.mem_cons_self ..))
      have h3 := hs a (List.mem_cons_self ..)
      have h4 := (hg a (List.mem_cons_self ..)).pd.2
      omega
  unfold joinL
  split
  · exact Nat.zero_le _
  · split
    · split
      · exact hfl
      · exact Nat.zero_le _
    · exact Nat.zero_le _
set_option maxHeartbeats 8000000 in
theorem xf_RtcpBack {W : World} (p : Option Addr) (n c : Nat) (xs : List Pb) (hx : xs.length = n) (hr : Rs W [] p (xs.flatMap Pb.enc)) (hbd : ∀ x, x ∈ xs → Rs W [] x.p (ints .u8 x.q.bd)) (hrg : ∀ x, x ∈ xs → x.q.Rg) (hle : ∀ x, x ∈ xs → x.q.bd.length ≤ 9223372036854775807) (hn : n ≤ 9223372036854775807)
    (pb : Option Addr) (m cb : Nat) (bs : List Int) (hxb : bs.length = m) (hrb : Rs W [] pb (ints .u8 bs)) (hb : ∀ x, x ∈ bs → By x) (hc : m ≤ cb) (hm : m ≤ 9223372036854775807) :
    XF Try.prog W 4 #[.slice p n c, .slice pb m cb] [] (fun v L' => v = .bool true) := by
  refine xf_enter (args := [_, _]) Try.func4 rfl Try.ntmps4 rfl ?_
  obtain ⟨fb, hfb⟩ : ∃ b : Bool, decide ((∀ x, x ∈ xs → x.q.bd.length ≤ 800) ∧ n ≤ 10) = b := ⟨_, rfl⟩
  by_cases hf0 : ¬ (fb = true ∧ m ≤ 2000)
  · skip
    cases fb with
    | false =>
      focus
        refine xc_seq ?_
        refine xc_region ?_
        refine xo_rd (rd_assign rfl) rfl ?_
        refine xo_nil ?_
        refine xq_seq ?_
        refine xc_seq ?_
        refine xc_seq ?_
        refine xc_region ?_
        refine xo_rd (rd_move rfl) rfl ?_
        refine xo_ef rfl (ef_call rfl (XF.mono (xf_few p n c xs _ hfb hx hr hn hle) ?_))
        rintro v L' ⟨rfl, rfl⟩
        refine xo_rd (rd_not rfl) rfl ?_
        refine xo_rd (rd_move rfl) rfl ?_
        refine xo_gskip rfl rfl rfl rfl ?_
        refine xo_gskip rfl rfl rfl rfl ?_
        refine xo_gskip rfl rfl rfl rfl ?_
        refine xo_rd (rd_pickt rfl rfl) rfl ?_
        refine xo_nil ?_
        refine xq_seq ?_
        refine xc_condt rfl ?_
        refine xc_seq ?_
        refine xc_region ?_
        refine xo_ef rfl (ef_call rfl (XF.mono (xf_any (fun W => xf_works)) ?_))
        rintro v L' ⟨rfl, rfl⟩
        refine xo_rd (rd_assign rfl) rfl ?_
        refine xo_nil ?_
        refine xq_seq ?_
        refine xc_ret ?_
        refine xq_then_ret ?_
        exact xq_ret1 (.inl rfl) Try.results4 rfl (rfl)
    | true =>
      have hm2 : ¬ m ≤ 2000 := fun h => hf0 ⟨rfl, h⟩
      focus
        refine xc_seq ?_
        refine xc_region ?_
        refine xo_rd (rd_assign rfl) rfl ?_
        refine xo_nil ?_
        refine xq_seq ?_
        refine xc_seq ?_
        refine xc_seq ?_
        refine xc_region ?_
        refine xo_rd (rd_move rfl) rfl ?_
        refine xo_ef rfl (ef_call rfl (XF.mono (xf_few p n c xs _ hfb hx hr hn hle) ?_))
        rintro v L' ⟨rfl, rfl⟩
        refine xo_rd (rd_not rfl) rfl ?_
        refine xo_rd (rd_move rfl) rfl ?_
        refine xo_grd rfl rfl (rd_move rfl) rfl ?_
        refine xo_grd rfl rfl (rd_len rfl) rfl ?_
        refine xo_grd rfl rfl (rd_gtr rfl rfl) rfl ?_
        refine xo_rd (rd_pickf rfl rfl) rfl ?_
        refine xo_nil ?_
        refine xq_seq ?_
        refine xc_dec rfl (fun h1 => ?_) (fun h1 => (by exfalso; omega))
        refine xc_seq ?_
        refine xc_region ?_
        refine xo_ef rfl (ef_call rfl (XF.mono (xf_any (fun W => xf_works)) ?_))
        rintro v L' ⟨rfl, rfl⟩
        refine xo_rd (rd_assign rfl) rfl ?_
        refine xo_nil ?_
        refine xq_seq ?_
        refine xc_ret ?_
        refine xq_then_ret ?_
        exact xq_ret1 (.inl rfl) Try.results4 rfl (rfl)
  obtain ⟨e1, hm2⟩ : fb = true ∧ m ≤ 2000 := Decidable.not_not.1 hf0
  subst e1
  obtain ⟨hf8, hf10⟩ := of_decide_eq_true hfb
  focus
    refine xc_seq ?_
    refine xc_region ?_
    refine xo_rd (rd_assign rfl) rfl ?_
    refine xo_nil ?_
    refine xq_seq ?_
    refine xc_seq ?_
    refine xc_seq ?_
    refine xc_region ?_
    refine xo_rd (rd_move rfl) rfl ?_
    refine xo_ef rfl (ef_call rfl (XF.mono (xf_few p n c xs _ hfb hx hr hn hle) ?_))
    rintro v L' ⟨rfl, rfl⟩
    refine xo_rd (rd_not rfl) rfl ?_
    refine xo_rd (rd_move rfl) rfl ?_
    refine xo_grd rfl rfl (rd_move rfl) rfl ?_
    refine xo_grd rfl rfl (rd_len rfl) rfl ?_
    refine xo_grd rfl rfl (rd_gtr rfl rfl) rfl ?_
    refine xo_rd (rd_pickf rfl rfl) rfl ?_
    refine xo_nil ?_
    refine xq_seq ?_
    refine xc_dec rfl (fun h1 => (by exfalso; omega)) (fun h1 => ?_)
    refine xc_skip ?_
    refine xq_seq ?_
  have hA : ∀ L, PbR W L p xs := fun L => (⟨hr, hbd, hrg, fun x hx => by have := hf8 x hx; omega⟩ : PbR W [] p xs).nilL
  have hqg : ∀ q, q ∈ xs.map Pb.q → q.Rg := fun q hq => by
    obtain ⟨x, hx, rfl⟩ := List.mem_map.1 hq
    exact hrg x hx
  obtain ⟨⟨out, e⟩, hz⟩ : ∃ z, joinL (xs.map Pb.q) = z := ⟨_, rfl⟩
  have hol : out.length ≤ n * 1059 := by
    have := joinL_le hqg (fun q hq => by
      obtain ⟨x, hx, rfl⟩ := List.mem_map.1 hq
      exact hf8 x hx)
    rw [hz, List.length_map, hx] at this
    exact this
  focus
    refine xc_seq ?_
    refine xc_region ?_
    refine xo_rd (rd_move rfl) rfl ?_
    refine xo_ef rfl (ef_call rfl (XF.mono (xf_join2 p n c xs out e hz hx (hA _) (by omega)) ?_))
    rintro v L' ⟨s, k, l, rfl, hO, rfl⟩
    refine xo_rd (rd_move rfl) rfl ?_
    refine xo_rd (rd_extract rfl rfl) rfl ?_
    refine xo_rd (rd_extract rfl rfl) rfl ?_
    refine xo_rd (rd_assign rfl) rfl ?_
    refine xo_rd (rd_assign rfl) rfl ?_
    refine xo_nil ?_
    refine xq_seq ?_
  refine xc_join (ι := Unit) (fun _ => True) (fun _ => []) (fun _ => [(0, .slice p n c), (1, .slice pb m cb)]) ?_ ?_
  · by_cases he : e = 0
    · subst he
      obtain ⟨hne, hok, hfk, hout⟩ := joinL_ok hz
      have hby : ∀ x, x ∈ out → By x := by rw [hout]; exact flat_by hok hqg
      have hsp : splitL (out.length + 1) true out = (xs.map Pb.q, 0) := by
        rw [hout]
        exact split_join _ _ _ (by have := flat_ge hqg; omega) hqg hok (fun _ => ⟨hne, hfk⟩)
      have hle2 : ∀ zs : List Pb, zs.map Pb.q = xs.map Pb.q → ∀ z, z ∈ zs → z.q.bd.length ≤ 1000000 := fun zs hq z hz => by
        have hm : z.q ∈ xs.map Pb.q := by rw [← hq]; exact List.mem_map_of_mem hz
        obtain ⟨x, hx, he⟩ := List.mem_map.1 hm
        rw [← he]; have := hf8 x hx; omega
      have hrg2 : ∀ zs : List Pb, zs.map Pb.q = xs.map Pb.q → ∀ z, z ∈ zs → z.q.Rg := fun zs hq z hz => hqg _ (by rw [← hq]; exact List.mem_map_of_mem hz)
      focus
        refine xc_seq ?_
        refine xc_region ?_
        refine xo_rd (rd_move rfl) rfl ?_
        refine xo_rd (rd_eql rfl rfl) rfl ?_
        refine xo_nil ?_
        refine xq_seq ?_
        refine xc_condt rfl ?_
        refine xc_seq ?_
        refine xc_region ?_
        refine xo_rd (rd_move rfl) rfl ?_
        refine xo_ef rfl (ef_call rfl (XF.mono (xf_split2 s out.length k out (xs.map Pb.q) 0 hsp rfl (hO.rs (by intro z hz; simp [hz])) hby hO.cap.2 (by omega)) ?_))
        rintro v L' ⟨zs, s2, k2, l2, rfl, hzq, hzo, hzr, hzs, rfl⟩
        refine xo_rd (rd_move rfl) rfl ?_
        refine xo_rd (rd_extract rfl rfl) rfl ?_
        refine xo_rd (rd_extract rfl rfl) rfl ?_
        refine xo_rd (rd_assign rfl) rfl ?_
        refine xo_rd (rd_assign rfl) rfl ?_
        refine xo_nil ?_
        refine xq_seq ?_
        refine xc_seq ?_
        refine xc_region ?_
        refine xo_rd (rd_move rfl) rfl ?_
        refine xo_rd (rd_neq rfl rfl) rfl ?_
        refine xo_rd (rd_move rfl) rfl ?_
        refine xo_grd rfl rfl (rd_move rfl) rfl ?_
        refine xo_grd rfl rfl (rd_move rfl) rfl ?_
        refine xo_gef rfl rfl rfl (ef_call rfl (XF.mono (xf_rtcps p n c xs hx (hA _) (by omega)) ?_))
        rintro v L' ⟨ys, sy, ky, ly, rfl, hyq, hyo, hys, rfl⟩
        refine xo_gef rfl rfl rfl (ef_call rfl (XF.mono (xf_sameRs s2 sy zs.length ys.length k2 ky zs ys true (by rw [hzq, hyq]; exact decide_eq_true rfl) rfl rfl ((PbR.own hzs hzo hzr (hle2 zs hzq)).mono fun z hz => List.mem_append_right _ (List.mem_append_right _ hz)) (PbR.own hys hyo (hrg2 ys hyq) (hle2 ys hyq)) (by have := congrArg List.length hzq; simp at this; omega)) ?_))
        rintro v L' ⟨rfl, rfl⟩
        refine xo_grd rfl rfl (rd_not rfl) rfl ?_
        refine xo_rd (rd_pickf rfl rfl) rfl ?_
        refine xo_nil ?_
        refine xq_seq ?_
        refine xc_condf rfl ?_
        refine xc_skip ?_
      exact xq_sub (List.nil_sublist _) (xq_joined () trivial rfl (by repeat (first | exact keep_nil | refine keep_cons rfl ?_)))
    · focus
        refine xc_seq ?_
        refine xc_region ?_
        refine xo_rd (rd_move rfl) rfl ?_
        refine xo_rd (rd_eql rfl rfl) rfl ?_
        refine xo_nil ?_
        refine xq_seq ?_
        refine xc_dec rfl (fun hq1 => (by exfalso; omega)) (fun hq1 => ?_)
        refine xc_skip ?_
      exact xq_sub (List.nil_sublist _) (xq_joined () trivial rfl (by repeat (first | exact keep_nil | refine keep_cons rfl ?_)))
  · rintro _ _
    obtain ⟨⟨qs, f⟩, hs⟩ : ∃ z, splitL (bs.length + 1) true bs = z := ⟨_, rfl⟩
    by_cases hf : f = 0
    · subst hf
      obtain ⟨j1, j2, X, pbs, pd, j3, j4, j5, j6, j7⟩ := split_inv _ _ _ _ (Nat.le_refl _) hb hs
      obtain ⟨j8, j9⟩ := j2 rfl
      focus
        refine xc_seq ?_
        refine xc_region ?_
        refine xo_rd (rd_move rfl) rfl ?_
        refine xo_ef rfl (ef_call rfl (XF.mono (xf_split2 pb m cb bs qs _ hs hxb hrb.nilL hb hc (by omega)) ?_))
        rintro v L' ⟨ys, sy, ky, ly, rfl, hyq, hyo, hyr, hys, rfl⟩
        refine xo_rd (rd_move rfl) rfl ?_
        refine xo_rd (rd_extract rfl rfl) rfl ?_
        refine xo_rd (rd_extract rfl rfl) rfl ?_
        refine xo_rd (rd_assign rfl) rfl ?_
        refine xo_rd (rd_assign rfl) rfl ?_
        refine xo_nil ?_
        refine xq_seq ?_
        refine xc_seq ?_
        refine xc_seq ?_
        refine xc_region ?_
        refine xo_rd (rd_move rfl) rfl ?_
        refine xo_rd (rd_neq rfl rfl) rfl ?_
        refine xo_nil ?_
        refine xq_seq ?_
        refine xc_condf rfl ?_
        refine xc_skip ?_
        refine xq_seq ?_
      have hyn : ys.length = qs.length := by have := congrArg List.length hyq; simpa using this
      have hyl : 0 < ys.length := by
        rw [hyn]; exact List.length_pos_iff.2 j8
      have hqb : ∀ q, q ∈ qs → q.bd.length ≤ m := fun q h => by have := splitL_bd (bs.length + 1) true bs q (by rw [hs]; exact h); omega
      have hqn : qs.length ≤ m := by have := splitL_few (bs.length + 1) true bs; rw [hs] at this; dsimp only at this; omega
      have hyf : ∀ y, y ∈ ys → y.q.bd.length ≤ 1000000 := fun y hy => by have := hqb y.q (by rw [← hyq]; exact List.mem_map_of_mem hy); omega
      have hyP : PbR W (ly ++ (bls ys ++ [])) sy ys := PbR.own hys hyo hyr hyf
      have hpd0 : 0 ≤ pd := by omega
      have htl := tailL_len pd hpd0
      have hdl : (qs.flatMap putP).length = m := by
        have e1 := congrArg List.length j3
        have e2 := congrArg List.length j4
        rw [List.length_append] at e1 e2
        omega
      focus
        refine xc_seq ?_
        refine xc_region ?_
        refine xo_rd (rd_move rfl) rfl ?_
        refine xo_ef rfl (ef_call rfl (XF.mono (xf_join2 sy ys.length ky ys (qs.flatMap putP) 0 (by rw [hyq]; exact joinL_of j8 j1 j9) rfl hyP (by omega)) ?_))
        rintro v L' ⟨so, ko, lo, rfl, hOo, rfl⟩
        refine xo_rd (rd_move rfl) rfl ?_
        refine xo_rd (rd_extract rfl rfl) rfl ?_
        refine xo_rd (rd_extract rfl rfl) rfl ?_
        refine xo_rd (rd_assign rfl) rfl ?_
        refine xo_rd (rd_assign rfl) rfl ?_
        refine xo_nil ?_
        refine xq_seq ?_
        refine xc_seq ?_
        refine xc_seq ?_
        refine xc_region ?_
        refine xo_rd (rd_move rfl) rfl ?_
        refine xo_rd (rd_neq rfl rfl) rfl ?_
        refine xo_rd (rd_move rfl) rfl ?_
        refine xo_grd rfl rfl (rd_move rfl) rfl ?_
        refine xo_grd rfl rfl (rd_len rfl) rfl ?_
        refine xo_grd rfl rfl (rd_move rfl) rfl ?_
        refine xo_grd rfl rfl (rd_len rfl) rfl ?_
        refine xo_grd rfl rfl (rd_neq rfl rfl) rfl ?_
        refine xo_rd (rd_pickf rfl rfl) rfl ?_
        refine xo_rd (rd_move rfl) rfl ?_
        refine xo_ndec 73 rfl (fun hq1 => (by exfalso; omega)) (fun hq1 => ?_)
        refine xo_grd rfl rfl (rd_move rfl) rfl ?_
        refine xo_grd rfl rfl (rd_len rfl) rfl ?_
        refine xo_grd rfl rfl (rd_eql rfl rfl) rfl ?_
        refine xo_rd (rd_pickf rfl rfl) rfl ?_
        refine xo_nil ?_
        refine xq_seq ?_
        refine xc_dec rfl (fun hq2 => (by exfalso; omega)) (fun hq2 => ?_)
        refine xc_skip ?_
        refine xq_seq ?_
      generalize hL0 : lo ++ (ly ++ (bls ys ++ [])) = L0 at *
      have hyP0 : PbR W L0 sy ys := hyP.mono fun z hz => by rw [← hL0]; exact List.mem_append_right _ hz
      have hdR : Rs W L0 so (ints .u8 (qs.flatMap putP)) := hOo.rs fun z hz => by rw [← hL0]; exact List.mem_append_left _ hz
      obtain ⟨yl, hyl1, hyl2⟩ : ∃ yl, ys[ys.length - 1]? = some yl ∧ yl.q.pd = pd := by
        refine ⟨ys[ys.length - 1]'(by omega), List.getElem?_eq_getElem _, ?_⟩
        apply j7
        refine (congrArg List.getLast? hyq).symm.trans ?_
        rw [List.getLast?_map, List.getLast?_eq_getElem?, List.getElem?_eq_getElem (by omega)]
        rfl
      have hpdB : pd ≤ 255 := by
        rw [← hyl2]; exact (hyr yl (List.mem_of_getElem? hyl1)).pd.2
      obtain ⟨b1, o1, hp1, hc1⟩ := hyP0.rs.rows Pb.len (by decide) (by omega)
      subst hp1
      have hcl : Cl W L0 b1 (o1 + ((ys.length : Int) - 1).toNat * 4 + 3) (.int .u8 pd) := by
        have h1 := hc1 (ys.length - 1) (by omega) 3 (.int .u8 pd) (by
          have := (List.getElem?_eq_some_iff.1 hyl1).2
          rw [this, ← hyl2]; rfl)
        rwa [show ((ys.length : Int) - 1).toNat = ys.length - 1 from by omega]
      focus
        refine xc_seq ?_
        refine xc_region ?_
        refine xo_rd (rd_move rfl) rfl ?_
        refine xo_rd (rd_len rfl) rfl ?_
        refine xo_rd (rd_move rfl) rfl ?_
        refine xo_rd (rd_move rfl) rfl ?_
        refine xo_rd (rd_len rfl) rfl ?_
        refine xo_rd (rd_subn rfl rfl (by omega) (by omega)) rfl ?_
        refine xo_rd (rd_indexAddr rfl rfl (by omega) (by omega)) rfl ?_
        refine xo_rd (rd_fieldAddr rfl) rfl ?_
        refine xo_rd (rd_load1 rfl hcl) rfl ?_
        refine xo_rd (rd_convn rfl (by omega) (by omega)) rfl ?_
        refine xo_rd (rd_subn rfl rfl (by omega) (by omega)) rfl ?_
        refine xo_rd (rd_assign rfl) rfl ?_
        refine xo_nil ?_
        refine xq_seq ?_
      have hXl : X.length + pbs.length = m := by
        have e1 := congrArg List.length j3
        rw [List.length_append] at e1
        omega
      have hbE : (m : Int) - pd = X.length := by omega
      focus
        refine xc_seq ?_
        refine xc_seq ?_
        refine xc_region ?_
        refine xo_rd (rd_assign rfl) rfl ?_
        refine xo_nil ?_
        refine xq_seq ?_
        refine xc_block ?_
      refine xc_loopK (ι := Nat) (fun i => i ≤ m) (fun i => m - i) (fun i => [(1, .slice pb m cb), (9, .slice (some ⟨b1, o1, none⟩) ys.length ky), (11, .slice so (qs.flatMap putP).length ko), (13, .int .i64 ((m : Int) - pd)), (14, .int .i64 i)]) 0 (Nat.zero_le _) (by repeat (first | exact keep_nil | refine keep_cons rfl ?_)) ?_
      intro i hi
      by_cases hin : i < m
      · obtain ⟨bd, od, hpd, hcd⟩ := hdR.int (i := i) (by omega)
        obtain ⟨bb, ob, hpb, hcb⟩ := (hrb.nilL (L := L0)).int (i := i) (by omega)
        subst hpd hpb
        have hbk := back_at (X := X) j5 j6 i (by omega)
        rw [← j4, ← j3, List.getD_eq_getElem?_getD, List.getD_eq_getElem?_getD, List.getElem?_eq_getElem (by omega), List.getElem?_eq_getElem (by omega), Option.getD_some, Option.getD_some] at hbk
        generalize (qs.flatMap putP)[i] = dv at *
        generalize bs[i] = bv at *
        obtain ⟨hbk1, hbk2⟩ := hbk
        by_cases hpad : X.length ≤ i ∧ i < X.length + pbs.length - 1
        · have hdv := hbk1 hpad
          by_cases hiy : i < ys.length
          · have gy := hyr ys[i] (List.getElem_mem _)
            have fy := hyf ys[i] (List.getElem_mem _)
            have hRy : ys[i].q.Right := okJ_all j1 _ (by rw [← hyq]; exact List.mem_map_of_mem (List.getElem_mem _))
            have hcy : ∀ (j : Nat) (u : Value), ys[i].enc[j]? = some u → Cl W L0 b1 (o1 + (i : Int).toNat * 4 + j) u := fun j u hj => hc1 i hiy j u hj
            generalize ys[i] = y at *
            focus
              refine xc_seq ?_
              refine xc_seq ?_
              refine xc_region ?_
              refine xo_rd (rd_move rfl) rfl ?_
              refine xo_rd (rd_move rfl) rfl ?_
              refine xo_rd (rd_len rfl) rfl ?_
              refine xo_rd (rd_lss rfl rfl) rfl ?_
              refine xo_nil ?_
              refine xq_seq ?_
              refine xc_dec rfl (fun hq1 => ?_) (fun hq1 => (by exfalso; omega))
              refine xc_skip ?_
              refine xq_seq ?_
              refine xc_seq ?_
              refine xc_block ?_
              refine xc_seq ?_
              refine xc_region ?_
              refine xo_rd (rd_move rfl) rfl ?_
              refine xo_rd (rd_move rfl) rfl ?_
              refine xo_rd (rd_geq rfl rfl) rfl ?_
              refine xo_rd (rd_move rfl) rfl ?_
              refine xo_dec 98 rfl (fun hq2 => ?_) (fun hq2 => (by exfalso; omega))
              refine xo_grd rfl rfl (rd_move rfl) rfl ?_
              refine xo_grd rfl rfl (rd_move rfl) rfl ?_
              refine xo_grd rfl rfl (rd_len rfl) rfl ?_
              refine xo_grd rfl rfl (rd_subn rfl rfl (by omega) (by omega)) rfl ?_
              refine xo_grd rfl rfl (rd_lss rfl rfl) rfl ?_
              refine xo_rd (rd_pickt rfl rfl) rfl ?_
              refine xo_rd (rd_assign rfl) rfl ?_
              refine xo_nil ?_
              refine xq_seq ?_
              refine xc_seq ?_
              refine xc_drawML [0, 1, 2, 4, 4, 28, 36, 4, 4, 388, 516, 1092, 2052, 4100, 8192, 24576, 32768, 32768, 229376, 294912, 557056, 1089536, 2105344, 4227072, 8388608, 8388608, 41943040, 92274688, 142606336, 268435456, 268435456, 1879048192, 2415919104, 4563402752, 8858370048, 17456693248, 34368126976] [0, 1, 2, 4, 4, 28, 36, 4, 4, 388, 516, 1092, 2052, 4100, 8192, 24576, 32768, 32768, 229376, 294912, 557056, 1089536, 2105344, 4227072, 8388608, 8388608, 41943040, 92274688, 142606336, 268435456, 268435456, 1879048192, 2415919104, 4563402752, 8858370048, 17456693248, 34368126976] (by kernel_rfl) (by kernel_rfl) (by kernel_rfl) ?_
              refine xm_take 0 (m' := 1) rfl (by kernel_rfl) Sb.refl (rd_move rfl) rfl (by kernel_rfl) ?_
              refine xm_take 1 (m' := 3) rfl (by kernel_rfl) Sb.refl (rd_not rfl) rfl (by kernel_rfl) ?_
              refine xm_take 2 (m' := 7) rfl (by kernel_rfl) Sb.refl (rd_move rfl) rfl (by kernel_rfl) ?_
              refine xm_ndec 107 rfl (fun hq3 => (by exfalso; omega)) (fun hq3 => ?_)
              refine xm_gskip 3 (m' := 15) rfl (by kernel_rfl) Sb.refl rfl rfl rfl rfl (by kernel_rfl) ?_
              refine xm_gskip 4 (m' := 31) rfl (by kernel_rfl) Sb.refl rfl rfl rfl rfl (by kernel_rfl) ?_
              refine xm_gskip 5 (m' := 63) rfl (by kernel_rfl) Sb.refl rfl rfl rfl rfl (by kernel_rfl) ?_
              refine xm_gskip 6 (m' := 127) rfl (by kernel_rfl) Sb.refl rfl rfl rfl rfl (by kernel_rfl) ?_
              refine xm_gskip 7 (m' := 255) rfl (by kernel_rfl) Sb.refl rfl rfl rfl rfl (by kernel_rfl) ?_
              refine xm_gskip 8 (m' := 511) rfl (by kernel_rfl) Sb.refl rfl rfl rfl rfl (by kernel_rfl) ?_
              refine xm_gskip 9 (m' := 1023) rfl (by kernel_rfl) Sb.refl rfl rfl rfl rfl (by kernel_rfl) ?_
              refine xm_gskip 10 (m' := 2047) rfl (by kernel_rfl) Sb.refl rfl rfl rfl rfl (by kernel_rfl) ?_
              refine xm_gskip 11 (m' := 4095) rfl (by kernel_rfl) Sb.refl rfl rfl rfl rfl (by kernel_rfl) ?_
              refine xm_take 12 (m' := 8191) rfl (by kernel_rfl) Sb.refl (rd_pickf rfl rfl) rfl (by kernel_rfl) ?_
              refine xm_take 13 (m' := 16383) rfl (by kernel_rfl) Sb.refl (rd_move rfl) rfl (by kernel_rfl) ?_
              refine xm_gtake 14 (m' := 32767) rfl (by kernel_rfl) Sb.refl rfl rfl (rd_move rfl) rfl (by kernel_rfl) ?_
              refine xm_gtake 15 (m' := 65535) rfl (by kernel_rfl) Sb.refl rfl rfl (rd_move rfl) rfl (by kernel_rfl) ?_
              refine xm_dec 120 rfl (fun hq4 => ?_) (fun hq4 => (by exfalso; omega))
              refine xm_gtake 16 (m' := 131071) rfl (by kernel_rfl) Sb.refl rfl rfl (rd_move rfl) rfl (by kernel_rfl) ?_
              refine xm_gtake 17 (m' := 262143) rfl (by kernel_rfl) Sb.refl rfl rfl (rd_move rfl) rfl (by kernel_rfl) ?_
              refine xm_gtake 18 (m' := 524287) rfl (by kernel_rfl) Sb.refl rfl rfl (rd_indexAddr rfl rfl (by omega) (by omega)) rfl (by kernel_rfl) ?_
              refine xm_gtake 19 (m' := 1048575) rfl (by kernel_rfl) Sb.refl rfl rfl (rd_load1 rfl hcd) rfl (by kernel_rfl) ?_
              refine xm_gtake 20 (m' := 2097151) rfl (by kernel_rfl) Sb.refl rfl rfl (rd_neq rfl rfl) rfl (by kernel_rfl) ?_
              refine xm_gtake 21 (m' := 4194303) rfl (by kernel_rfl) Sb.refl rfl rfl (rd_pickt rfl rfl) rfl (by kernel_rfl) ?_
              refine xm_take 22 (m' := 8388607) rfl (by kernel_rfl) Sb.refl (rd_pickf rfl rfl) rfl (by kernel_rfl) ?_
              refine xm_take 23 (m' := 16777215) rfl (by kernel_rfl) Sb.refl (rd_move rfl) rfl (by kernel_rfl) ?_
              refine xm_ndec 128 rfl (fun hq5 => (by exfalso; omega)) (fun hq5 => ?_)
              refine xm_gtake 24 (m' := 33554431) rfl (by kernel_rfl) Sb.refl rfl rfl (rd_move rfl) rfl (by kernel_rfl) ?_
              refine xm_gtake 25 (m' := 67108863) rfl (by kernel_rfl) Sb.refl rfl rfl (rd_move rfl) rfl (by kernel_rfl) ?_
              refine xm_gtake 26 (m' := 134217727) rfl (by kernel_rfl) Sb.refl rfl rfl (rd_len rfl) rfl (by kernel_rfl) ?_
              refine xm_gtake 27 (m' := 268435455) rfl (by kernel_rfl) Sb.refl rfl rfl (rd_lss rfl rfl) rfl (by kernel_rfl) ?_
              refine xm_gtake 28 (m' := 536870911) rfl (by kernel_rfl) Sb.refl rfl rfl (rd_move rfl) rfl (by kernel_rfl) ?_
              refine xm_dec 133 rfl (fun hq6 => ?_) (fun hq6 => (by exfalso; omega))
              refine xm_gtake 29 (m' := 1073741823) rfl (by kernel_rfl) Sb.refl rfl rfl (rd_move rfl) rfl (by kernel_rfl) ?_
              refine xm_gtake 30 (m' := 2147483647) rfl (by kernel_rfl) Sb.refl rfl rfl (rd_move rfl) rfl (by kernel_rfl) ?_
              refine xm_gtake 31 (m' := 4294967295) rfl (by kernel_rfl) Sb.refl rfl rfl (rd_indexAddr rfl rfl (by omega) (by omega)) rfl (by kernel_rfl) ?_
              refine xm_gtake 32 (m' := 8589934591) rfl (by kernel_rfl) Sb.refl rfl rfl (rd_loadA (vs := y.enc) rfl rfl hcy) rfl (by kernel_rfl) ?_
              refine xm_gone 33 (m' := 17179869183) rfl (by kernel_rfl) rfl rfl rfl (by kernel_rfl) (ef_call rfl (XF.mono (xf_rightP y true (decide_eq_true hRy) gy fy) ?_))
              rintro v L' ⟨rfl, rfl⟩
              refine ⟨Sb.refl, ?_⟩
              refine xm_gtake 34 (m' := 34359738367) rfl (by kernel_rfl) Sb.refl rfl rfl (rd_not rfl) rfl (by kernel_rfl) ?_
              refine xm_gtake 35 (m' := 68719476735) rfl (by kernel_rfl) Sb.refl rfl rfl (rd_pickt rfl rfl) rfl (by kernel_rfl) ?_
              refine xm_take 36 (m' := 137438953471) rfl (by kernel_rfl) Sb.refl (rd_pickf rfl rfl) rfl (by kernel_rfl) ?_
              refine xm_done (by kernel_rfl) ?_
              refine xq_seq ?_
              refine xc_condf rfl ?_
              refine xc_skip ?_
              refine xq_block ?_
              refine xq_seq ?_
              refine xc_region ?_
              refine xo_rd (rd_move rfl) rfl ?_
              refine xo_rd (rd_addn rfl rfl (by omega) (by omega)) rfl ?_
              refine xo_rd (rd_assign rfl) rfl ?_
              refine xo_nil ?_
            exact xq_roundK rfl (i + 1) (by omega) (by omega) (List.Sublist.refl _) (by repeat (first | exact keep_nil | refine keep_cons rfl ?_))
          · focus
              refine xc_seq ?_
              refine xc_seq ?_
              refine xc_region ?_
              refine xo_rd (rd_move rfl) rfl ?_
              refine xo_rd (rd_move rfl) rfl ?_
              refine xo_rd (rd_len rfl) rfl ?_
              refine xo_rd (rd_lss rfl rfl) rfl ?_
              refine xo_nil ?_
              refine xq_seq ?_
              refine xc_dec rfl (fun hq1 => ?_) (fun hq1 => (by exfalso; omega))
              refine xc_skip ?_
              refine xq_seq ?_
              refine xc_seq ?_
              refine xc_block ?_
              refine xc_seq ?_
              refine xc_region ?_
              refine xo_rd (rd_move rfl) rfl ?_
              refine xo_rd (rd_move rfl) rfl ?_
              refine xo_rd (rd_geq rfl rfl) rfl ?_
              refine xo_rd (rd_move rfl) rfl ?_
              refine xo_dec 98 rfl (fun hq2 => ?_) (fun hq2 => (by exfalso; omega))
              refine xo_grd rfl rfl (rd_move rfl) rfl ?_
              refine xo_grd rfl rfl (rd_move rfl) rfl ?_
              refine xo_grd rfl rfl (rd_len rfl) rfl ?_
              refine xo_grd rfl rfl (rd_subn rfl rfl (by omega) (by omega)) rfl ?_
              refine xo_grd rfl rfl (rd_lss rfl rfl) rfl ?_
              refine xo_rd (rd_pickt rfl rfl) rfl ?_
              refine xo_rd (rd_assign rfl) rfl ?_
              refine xo_nil ?_
              refine xq_seq ?_
              refine xc_seq ?_
              refine xc_drawML [0, 1, 2, 4, 4, 28, 36, 4, 4, 388, 516, 1092, 2052, 4100, 8192, 24576, 32768, 32768, 229376, 294912, 557056, 1089536, 2105344, 4227072, 8388608, 8388608, 41943040, 92274688, 142606336, 268435456, 268435456, 1879048192, 2415919104, 4563402752, 8858370048, 17456693248, 34368126976] [0, 1, 2, 4, 4, 28, 36, 4, 4, 388, 516, 1092, 2052, 4100, 8192, 24576, 32768, 32768, 229376, 294912, 557056, 1089536, 2105344, 4227072, 8388608, 8388608, 41943040, 92274688, 142606336, 268435456, 268435456, 1879048192, 2415919104, 4563402752, 8858370048, 17456693248, 34368126976] (by kernel_rfl) (by kernel_rfl) (by kernel_rfl) ?_
              refine xm_take 0 (m' := 1) rfl (by kernel_rfl) Sb.refl (rd_move rfl) rfl (by kernel_rfl) ?_
              refine xm_take 1 (m' := 3) rfl (by kernel_rfl) Sb.refl (rd_not rfl) rfl (by kernel_rfl) ?_
              refine xm_take 2 (m' := 7) rfl (by kernel_rfl) Sb.refl (rd_move rfl) rfl (by kernel_rfl) ?_
              refine xm_ndec 107 rfl (fun hq3 => (by exfalso; omega)) (fun hq3 => ?_)
              refine xm_gskip 3 (m' := 15) rfl (by kernel_rfl) Sb.refl rfl rfl rfl rfl (by kernel_rfl) ?_
              refine xm_gskip 4 (m' := 31) rfl (by kernel_rfl) Sb.refl rfl rfl rfl rfl (by kernel_rfl) ?_
              refine xm_gskip 5 (m' := 63) rfl (by kernel_rfl) Sb.refl rfl rfl rfl rfl (by kernel_rfl) ?_
              refine xm_gskip 6 (m' := 127) rfl (by kernel_rfl) Sb.refl rfl rfl rfl rfl (by kernel_rfl) ?_
              refine xm_gskip 7 (m' := 255) rfl (by kernel_rfl) Sb.refl rfl rfl rfl rfl (by kernel_rfl) ?_
              refine xm_gskip 8 (m' := 511) rfl (by kernel_rfl) Sb.refl rfl rfl rfl rfl (by kernel_rfl) ?_
              refine xm_gskip 9 (m' := 1023) rfl (by kernel_rfl) Sb.refl rfl rfl rfl rfl (by kernel_rfl) ?_
              refine xm_gskip 10 (m' := 2047) rfl (by kernel_rfl) Sb.refl rfl rfl rfl rfl (by kernel_rfl) ?_
              refine xm_gskip 11 (m' := 4095) rfl (by kernel_rfl) Sb.refl rfl rfl rfl rfl (by kernel_rfl) ?_
              refine xm_take 12 (m' := 8191) rfl (by kernel_rfl) Sb.refl (rd_pickf rfl rfl) rfl (by kernel_rfl) ?_
              refine xm_take 13 (m' := 16383) rfl (by kernel_rfl) Sb.refl (rd_move rfl) rfl (by kernel_rfl) ?_
              refine xm_gtake 14 (m' := 32767) rfl (by kernel_rfl) Sb.refl rfl rfl (rd_move rfl) rfl (by kernel_rfl) ?_
              refine xm_gtake 15 (m' := 65535) rfl (by kernel_rfl) Sb.refl rfl rfl (rd_move rfl) rfl (by kernel_rfl) ?_
              refine xm_dec 120 rfl (fun hq4 => ?_) (fun hq4 => (by exfalso; omega))
              refine xm_gtake 16 (m' := 131071) rfl (by kernel_rfl) Sb.refl rfl rfl (rd_move rfl) rfl (by kernel_rfl) ?_
              refine xm_gtake 17 (m' := 262143) rfl (by kernel_rfl) Sb.refl rfl rfl (rd_move rfl) rfl (by kernel_rfl) ?_
              refine xm_gtake 18 (m' := 524287) rfl (by kernel_rfl) Sb.refl rfl rfl (rd_indexAddr rfl rfl (by omega) (by omega)) rfl (by kernel_rfl) ?_
              refine xm_gtake 19 (m' := 1048575) rfl (by kernel_rfl) Sb.refl rfl rfl (rd_load1 rfl hcd) rfl (by kernel_rfl) ?_
              refine xm_gtake 20 (m' := 2097151) rfl (by kernel_rfl) Sb.refl rfl rfl (rd_neq rfl rfl) rfl (by kernel_rfl) ?_
              refine xm_gtake 21 (m' := 4194303) rfl (by kernel_rfl) Sb.refl rfl rfl (rd_pickt rfl rfl) rfl (by kernel_rfl) ?_
              refine xm_take 22 (m' := 8388607) rfl (by kernel_rfl) Sb.refl (rd_pickf rfl rfl) rfl (by kernel_rfl) ?_
              refine xm_take 23 (m' := 16777215) rfl (by kernel_rfl) Sb.refl (rd_move rfl) rfl (by kernel_rfl) ?_
              refine xm_ndec 128 rfl (fun hq5 => (by exfalso; omega)) (fun hq5 => ?_)
              refine xm_gtake 24 (m' := 33554431) rfl (by kernel_rfl) Sb.refl rfl rfl (rd_move rfl) rfl (by kernel_rfl) ?_
              refine xm_gtake 25 (m' := 67108863) rfl (by kernel_rfl) Sb.refl rfl rfl (rd_move rfl) rfl (by kernel_rfl) ?_
              refine xm_gtake 26 (m' := 134217727) rfl (by kernel_rfl) Sb.refl rfl rfl (rd_len rfl) rfl (by kernel_rfl) ?_
              refine xm_gtake 27 (m' := 268435455) rfl (by kernel_rfl) Sb.refl rfl rfl (rd_lss rfl rfl) rfl (by kernel_rfl) ?_
              refine xm_gtake 28 (m' := 536870911) rfl (by kernel_rfl) Sb.refl rfl rfl (rd_move rfl) rfl (by kernel_rfl) ?_
              refine xm_dec 133 rfl (fun hq6 => (by exfalso; omega)) (fun hq6 => ?_)
              refine xm_gskip 29 (m' := 1073741823) rfl (by kernel_rfl) Sb.refl rfl rfl rfl rfl (by kernel_rfl) ?_
              refine xm_gskip 30 (m' := 2147483647) rfl (by kernel_rfl) Sb.refl rfl rfl rfl rfl (by kernel_rfl) ?_
              refine xm_gskip 31 (m' := 4294967295) rfl (by kernel_rfl) Sb.refl rfl rfl rfl rfl (by kernel_rfl) ?_
              refine xm_gskip 32 (m' := 8589934591) rfl (by kernel_rfl) Sb.refl rfl rfl rfl rfl (by kernel_rfl) ?_
              refine xm_gskip 33 (m' := 17179869183) rfl (by kernel_rfl) Sb.refl rfl rfl rfl rfl (by kernel_rfl) ?_
              refine xm_gskip 34 (m' := 34359738367) rfl (by kernel_rfl) Sb.refl rfl rfl rfl rfl (by kernel_rfl) ?_
              refine xm_gtake 35 (m' := 68719476735) rfl (by kernel_rfl) Sb.refl rfl rfl (rd_pickf rfl rfl) rfl (by kernel_rfl) ?_
              refine xm_take 36 (m' := 137438953471) rfl (by kernel_rfl) Sb.refl (rd_pickf rfl rfl) rfl (by kernel_rfl) ?_
              refine xm_done (by kernel_rfl) ?_
              refine xq_seq ?_
              refine xc_condf rfl ?_
              refine xc_skip ?_
              refine xq_block ?_
              refine xq_seq ?_
              refine xc_region ?_
              refine xo_rd (rd_move rfl) rfl ?_
              refine xo_rd (rd_addn rfl rfl (by omega) (by omega)) rfl ?_
              refine xo_rd (rd_assign rfl) rfl ?_
              refine xo_nil ?_
            exact xq_roundK rfl (i + 1) (by omega) (by omega) (List.Sublist.refl _) (by repeat (first | exact keep_nil | refine keep_cons rfl ?_))
        · have hdv := hbk2 hpad
          by_cases hiy : i < ys.length
          · have gy := hyr ys[i] (List.getElem_mem _)
            have fy := hyf ys[i] (List.getElem_mem _)
            have hRy : ys[i].q.Right := okJ_all j1 _ (by rw [← hyq]; exact List.mem_map_of_mem (List.getElem_mem _))
            have hcy : ∀ (j : Nat) (u : Value), ys[i].enc[j]? = some u → Cl W L0 b1 (o1 + (i : Int).toNat * 4 + j) u := fun j u hj => hc1 i hiy j u hj
            generalize ys[i] = y at *
            focus
              refine xc_seq ?_
              refine xc_seq ?_
              refine xc_region ?_
              refine xo_rd (rd_move rfl) rfl ?_
              refine xo_rd (rd_move rfl) rfl ?_
              refine xo_rd (rd_len rfl) rfl ?_
              refine xo_rd (rd_lss rfl rfl) rfl ?_
              refine xo_nil ?_
              refine xq_seq ?_
              refine xc_dec rfl (fun hq1 => ?_) (fun hq1 => (by exfalso; omega))
              refine xc_skip ?_
              refine xq_seq ?_
              refine xc_seq ?_
              refine xc_block ?_
              refine xc_seq ?_
              refine xc_region ?_
              refine xo_rd (rd_move rfl) rfl ?_
              refine xo_rd (rd_move rfl) rfl ?_
              refine xo_rd (rd_geq rfl rfl) rfl ?_
              refine xo_rd (rd_move rfl) rfl ?_
              refine xo_dec 98 rfl (fun hq2 => ?_) (fun hq2 => ?_)
              refine xo_grd rfl rfl (rd_move rfl) rfl ?_
              refine xo_grd rfl rfl (rd_move rfl) rfl ?_
              refine xo_grd rfl rfl (rd_len rfl) rfl ?_
              refine xo_grd rfl rfl (rd_subn rfl rfl (by omega) (by omega)) rfl ?_
              refine xo_grd rfl rfl (rd_lss rfl rfl) rfl ?_
              refine xo_rd (rd_pickt rfl rfl) rfl ?_
              refine xo_rd (rd_assign rfl) rfl ?_
              refine xo_nil ?_
              refine xq_seq ?_
              refine xc_seq ?_
              refine xc_drawML [0, 1, 2, 4, 4, 28, 36, 4, 4, 388, 516, 1092, 2052, 4100, 8192, 24576, 32768, 32768, 229376, 294912, 557056, 1089536, 2105344, 4227072, 8388608, 8388608, 41943040, 92274688, 142606336, 268435456, 268435456, 1879048192, 2415919104, 4563402752, 8858370048, 17456693248, 34368126976] [0, 1, 2, 4, 4, 28, 36, 4, 4, 388, 516, 1092, 2052, 4100, 8192, 24576, 32768, 32768, 229376, 294912, 557056, 1089536, 2105344, 4227072, 8388608, 8388608, 41943040, 92274688, 142606336, 268435456, 268435456, 1879048192, 2415919104, 4563402752, 8858370048, 17456693248, 34368126976] (by kernel_rfl) (by kernel_rfl) (by kernel_rfl) ?_
              refine xm_take 0 (m' := 1) rfl (by kernel_rfl) Sb.refl (rd_move rfl) rfl (by kernel_rfl) ?_
              refine xm_take 1 (m' := 3) rfl (by kernel_rfl) Sb.refl (rd_not rfl) rfl (by kernel_rfl) ?_
              refine xm_take 2 (m' := 7) rfl (by kernel_rfl) Sb.refl (rd_move rfl) rfl (by kernel_rfl) ?_
              refine xm_ndec 107 rfl (fun hq3 => ?_) (fun hq3 => (by exfalso; omega))
              refine xm_gtake 3 (m' := 15) rfl (by kernel_rfl) Sb.refl rfl rfl (rd_move rfl) rfl (by kernel_rfl) ?_
              refine xm_gtake 4 (m' := 31) rfl (by kernel_rfl) Sb.refl rfl rfl (rd_move rfl) rfl (by kernel_rfl) ?_
              refine xm_gtake 5 (m' := 63) rfl (by kernel_rfl) Sb.refl rfl rfl (rd_indexAddr rfl rfl (by omega) (by omega)) rfl (by kernel_rfl) ?_
              refine xm_gtake 6 (m' := 127) rfl (by kernel_rfl) Sb.refl rfl rfl (rd_load1 rfl hcd) rfl (by kernel_rfl) ?_
              refine xm_gtake 7 (m' := 255) rfl (by kernel_rfl) Sb.refl rfl rfl (rd_move rfl) rfl (by kernel_rfl) ?_
              refine xm_gtake 8 (m' := 511) rfl (by kernel_rfl) Sb.refl rfl rfl (rd_move rfl) rfl (by kernel_rfl) ?_
              refine xm_gtake 9 (m' := 1023) rfl (by kernel_rfl) Sb.refl rfl rfl (rd_indexAddr rfl rfl (by omega) (by omega)) rfl (by kernel_rfl) ?_
              refine xm_gtake 10 (m' := 2047) rfl (by kernel_rfl) Sb.refl rfl rfl (rd_load1 rfl hcb) rfl (by kernel_rfl) ?_
              refine xm_gtake 11 (m' := 4095) rfl (by kernel_rfl) Sb.refl rfl rfl (rd_neq rfl rfl) rfl (by kernel_rfl) ?_
              refine xm_take 12 (m' := 8191) rfl (by kernel_rfl) Sb.refl (rd_pickt rfl rfl) rfl (by kernel_rfl) ?_
              refine xm_take 13 (m' := 16383) rfl (by kernel_rfl) Sb.refl (rd_move rfl) rfl (by kernel_rfl) ?_
              refine xm_ndec 118 rfl (fun hq4 => (by exfalso; omega)) (fun hq4 => ?_)
              refine xm_gtake 14 (m' := 32767) rfl (by kernel_rfl) Sb.refl rfl rfl (rd_move rfl) rfl (by kernel_rfl) ?_
              refine xm_gtake 15 (m' := 65535) rfl (by kernel_rfl) Sb.refl rfl rfl (rd_move rfl) rfl (by kernel_rfl) ?_
              refine xm_dec 120 rfl (fun hq5 => (by exfalso; omega)) (fun hq5 => ?_)
              refine xm_gskip 16 (m' := 131071) rfl (by kernel_rfl) Sb.refl rfl rfl rfl rfl (by kernel_rfl) ?_
              refine xm_gskip 17 (m' := 262143) rfl (by kernel_rfl) Sb.refl rfl rfl rfl rfl (by kernel_rfl) ?_
              refine xm_gskip 18 (m' := 524287) rfl (by kernel_rfl) Sb.refl rfl rfl rfl rfl (by kernel_rfl) ?_
              refine xm_gskip 19 (m' := 1048575) rfl (by kernel_rfl) Sb.refl rfl rfl rfl rfl (by kernel_rfl) ?_
              refine xm_gskip 20 (m' := 2097151) rfl (by kernel_rfl) Sb.refl rfl rfl rfl rfl (by kernel_rfl) ?_
              refine xm_gtake 21 (m' := 4194303) rfl (by kernel_rfl) Sb.refl rfl rfl (rd_pickf rfl rfl) rfl (by kernel_rfl) ?_
              refine xm_take 22 (m' := 8388607) rfl (by kernel_rfl) Sb.refl (rd_pickf rfl rfl) rfl (by kernel_rfl) ?_
              refine xm_take 23 (m' := 16777215) rfl (by kernel_rfl) Sb.refl (rd_move rfl) rfl (by kernel_rfl) ?_
              refine xm_gtake 24 (m' := 33554431) rfl (by kernel_rfl) Sb.refl rfl rfl (rd_move rfl) rfl (by kernel_rfl) ?_
              refine xm_gtake 25 (m' := 67108863) rfl (by kernel_rfl) Sb.refl rfl rfl (rd_move rfl) rfl (by kernel_rfl) ?_
              refine xm_gtake 26 (m' := 134217727) rfl (by kernel_rfl) Sb.refl rfl rfl (rd_len rfl) rfl (by kernel_rfl) ?_
              refine xm_gtake 27 (m' := 268435455) rfl (by kernel_rfl) Sb.refl rfl rfl (rd_lss rfl rfl) rfl (by kernel_rfl) ?_
              refine xm_gtake 28 (m' := 536870911) rfl (by kernel_rfl) Sb.refl rfl rfl (rd_move rfl) rfl (by kernel_rfl) ?_
              refine xm_dec 133 rfl (fun hq6 => ?_) (fun hq6 => (by exfalso; omega))
              refine xm_gtake 29 (m' := 1073741823) rfl (by kernel_rfl) Sb.refl rfl rfl (rd_move rfl) rfl (by kernel_rfl) ?_
              refine xm_gtake 30 (m' := 2147483647) rfl (by kernel_rfl) Sb.refl rfl rfl (rd_move rfl) rfl (by kernel_rfl) ?_
              refine xm_gtake 31 (m' := 4294967295) rfl (by kernel_rfl) Sb.refl rfl rfl (rd_indexAddr rfl rfl (by omega) (by omega)) rfl (by kernel_rfl) ?_
              refine xm_gtake 32 (m' := 8589934591) rfl (by kernel_rfl) Sb.refl rfl rfl (rd_loadA (vs := y.enc) rfl rfl hcy) rfl (by kernel_rfl) ?_
              refine xm_gone 33 (m' := 17179869183) rfl (by kernel_rfl) rfl rfl rfl (by kernel_rfl) (ef_call rfl (XF.mono (xf_rightP y true (decide_eq_true hRy) gy fy) ?_))
              rintro v L' ⟨rfl, rfl⟩
              refine ⟨Sb.refl, ?_⟩
              refine xm_gtake 34 (m' := 34359738367) rfl (by kernel_rfl) Sb.refl rfl rfl (rd_not rfl) rfl (by kernel_rfl) ?_
              refine xm_gtake 35 (m' := 68719476735) rfl (by kernel_rfl) Sb.refl rfl rfl (rd_pickt rfl rfl) rfl (by kernel_rfl) ?_
              refine xm_take 36 (m' := 137438953471) rfl (by kernel_rfl) Sb.refl (rd_pickf rfl rfl) rfl (by kernel_rfl) ?_
              refine xm_done (by kernel_rfl) ?_
              refine xq_seq ?_
              refine xc_condf rfl ?_
              refine xc_skip ?_
              refine xq_block ?_
              refine xq_seq ?_
              refine xc_region ?_
              refine xo_rd (rd_move rfl) rfl ?_
              refine xo_rd (rd_addn rfl rfl (by omega) (by omega)) rfl ?_
              refine xo_rd (rd_assign rfl) rfl ?_
              refine xo_nil ?_
              rotate_left
              refine xo_gskip rfl rfl rfl rfl ?_
              refine xo_gskip rfl rfl rfl rfl ?_
              refine xo_gskip rfl rfl rfl rfl ?_
              refine xo_gskip rfl rfl rfl rfl ?_
              refine xo_gskip rfl rfl rfl rfl ?_
              refine xo_rd (rd_pickf rfl rfl) rfl ?_
              refine xo_rd (rd_assign rfl) rfl ?_
              refine xo_nil ?_
              refine xq_seq ?_
              refine xc_seq ?_
              refine xc_drawML [0, 1, 2, 4, 4, 28, 36, 4, 4, 388, 516, 1092, 2052, 4100, 8192, 24576, 32768, 32768, 229376, 294912, 557056, 1089536, 2105344, 4227072, 8388608, 8388608, 41943040, 92274688, 142606336, 268435456, 268435456, 1879048192, 2415919104, 4563402752, 8858370048, 17456693248, 34368126976] [0, 1, 2, 4, 4, 28, 36, 4, 4, 388, 516, 1092, 2052, 4100, 8192, 24576, 32768, 32768, 229376, 294912, 557056, 1089536, 2105344, 4227072, 8388608, 8388608, 41943040, 92274688, 142606336, 268435456, 268435456, 1879048192, 2415919104, 4563402752, 8858370048, 17456693248, 34368126976] (by kernel_rfl) (by kernel_rfl) (by kernel_rfl) ?_
              refine xm_take 0 (m' := 1) rfl (by kernel_rfl) Sb.refl (rd_move rfl) rfl (by kernel_rfl) ?_
              refine xm_take 1 (m' := 3) rfl (by kernel_rfl) Sb.refl (rd_not rfl) rfl (by kernel_rfl) ?_
              refine xm_take 2 (m' := 7) rfl (by kernel_rfl) Sb.refl (rd_move rfl) rfl (by kernel_rfl) ?_
              refine xm_gtake 3 (m' := 15) rfl (by kernel_rfl) Sb.refl rfl rfl (rd_move rfl) rfl (by kernel_rfl) ?_
              refine xm_gtake 4 (m' := 31) rfl (by kernel_rfl) Sb.refl rfl rfl (rd_move rfl) rfl (by kernel_rfl) ?_
              refine xm_gtake 5 (m' := 63) rfl (by kernel_rfl) Sb.refl rfl rfl (rd_indexAddr rfl rfl (by omega) (by omega)) rfl (by kernel_rfl) ?_
              refine xm_gtake 6 (m' := 127) rfl (by kernel_rfl) Sb.refl rfl rfl (rd_load1 rfl hcd) rfl (by kernel_rfl) ?_
              refine xm_gtake 7 (m' := 255) rfl (by kernel_rfl) Sb.refl rfl rfl (rd_move rfl) rfl (by kernel_rfl) ?_
              refine xm_gtake 8 (m' := 511) rfl (by kernel_rfl) Sb.refl rfl rfl (rd_move rfl) rfl (by kernel_rfl) ?_
              refine xm_gtake 9 (m' := 1023) rfl (by kernel_rfl) Sb.refl rfl rfl (rd_indexAddr rfl rfl (by omega) (by omega)) rfl (by kernel_rfl) ?_
              refine xm_gtake 10 (m' := 2047) rfl (by kernel_rfl) Sb.refl rfl rfl (rd_load1 rfl hcb) rfl (by kernel_rfl) ?_
              refine xm_gtake 11 (m' := 4095) rfl (by kernel_rfl) Sb.refl rfl rfl (rd_neq rfl rfl) rfl (by kernel_rfl) ?_
              refine xm_take 12 (m' := 8191) rfl (by kernel_rfl) Sb.refl (rd_pickt rfl rfl) rfl (by kernel_rfl) ?_
              refine xm_take 13 (m' := 16383) rfl (by kernel_rfl) Sb.refl (rd_move rfl) rfl (by kernel_rfl) ?_
              refine xm_ndec 118 rfl (fun hq7 => (by exfalso; omega)) (fun hq7 => ?_)
              refine xm_gtake 14 (m' := 32767) rfl (by kernel_rfl) Sb.refl rfl rfl (rd_move rfl) rfl (by kernel_rfl) ?_
              refine xm_gtake 15 (m' := 65535) rfl (by kernel_rfl) Sb.refl rfl rfl (rd_move rfl) rfl (by kernel_rfl) ?_
              refine xm_gskip 16 (m' := 131071) rfl (by kernel_rfl) Sb.refl rfl rfl rfl rfl (by kernel_rfl) ?_
              refine xm_gskip 17 (m' := 262143) rfl (by kernel_rfl) Sb.refl rfl rfl rfl rfl (by kernel_rfl) ?_
              refine xm_gskip 18 (m' := 524287) rfl (by kernel_rfl) Sb.refl rfl rfl rfl rfl (by kernel_rfl) ?_
              refine xm_gskip 19 (m' := 1048575) rfl (by kernel_rfl) Sb.refl rfl rfl rfl rfl (by kernel_rfl) ?_
              refine xm_gskip 20 (m' := 2097151) rfl (by kernel_rfl) Sb.refl rfl rfl rfl rfl (by kernel_rfl) ?_
              refine xm_gtake 21 (m' := 4194303) rfl (by kernel_rfl) Sb.refl rfl rfl (rd_pickf rfl rfl) rfl (by kernel_rfl) ?_
              refine xm_take 22 (m' := 8388607) rfl (by kernel_rfl) Sb.refl (rd_pickf rfl rfl) rfl (by kernel_rfl) ?_
              refine xm_take 23 (m' := 16777215) rfl (by kernel_rfl) Sb.refl (rd_move rfl) rfl (by kernel_rfl) ?_
              refine xm_gtake 24 (m' := 33554431) rfl (by kernel_rfl) Sb.refl rfl rfl (rd_move rfl) rfl (by kernel_rfl) ?_
              refine xm_gtake 25 (m' := 67108863) rfl (by kernel_rfl) Sb.refl rfl rfl (rd_move rfl) rfl (by kernel_rfl) ?_
              refine xm_gtake 26 (m' := 134217727) rfl (by kernel_rfl) Sb.refl rfl rfl (rd_len rfl) rfl (by kernel_rfl) ?_
              refine xm_gtake 27 (m' := 268435455) rfl (by kernel_rfl) Sb.refl rfl rfl (rd_lss rfl rfl) rfl (by kernel_rfl) ?_
              refine xm_gtake 28 (m' := 536870911) rfl (by kernel_rfl) Sb.refl rfl rfl (rd_move rfl) rfl (by kernel_rfl) ?_
              refine xm_dec 133 rfl (fun hq8 => ?_) (fun hq8 => (by exfalso; omega))
              refine xm_gtake 29 (m' := 1073741823) rfl (by kernel_rfl) Sb.refl rfl rfl (rd_move rfl) rfl (by kernel_rfl) ?_
              refine xm_gtake 30 (m' := 2147483647) rfl (by kernel_rfl) Sb.refl rfl rfl (rd_move rfl) rfl (by kernel_rfl) ?_
              refine xm_gtake 31 (m' := 4294967295) rfl (by kernel_rfl) Sb.refl rfl rfl (rd_indexAddr rfl rfl (by omega) (by omega)) rfl (by kernel_rfl) ?_
              refine xm_gtake 32 (m' := 8589934591) rfl (by kernel_rfl) Sb.refl rfl rfl (rd_loadA (vs := y.enc) rfl rfl hcy) rfl (by kernel_rfl) ?_
              refine xm_gone 33 (m' := 17179869183) rfl (by kernel_rfl) rfl rfl rfl (by kernel_rfl) (ef_call rfl (XF.mono (xf_rightP y true (decide_eq_true hRy) gy fy) ?_))
              rintro v L' ⟨rfl, rfl⟩
              refine ⟨Sb.refl, ?_⟩
              refine xm_gtake 34 (m' := 34359738367) rfl (by kernel_rfl) Sb.refl rfl rfl (rd_not rfl) rfl (by kernel_rfl) ?_
              refine xm_gtake 35 (m' := 68719476735) rfl (by kernel_rfl) Sb.refl rfl rfl (rd_pickt rfl rfl) rfl (by kernel_rfl) ?_
              refine xm_take 36 (m' := 137438953471) rfl (by kernel_rfl) Sb.refl (rd_pickf rfl rfl) rfl (by kernel_rfl) ?_
              refine xm_done (by kernel_rfl) ?_
              refine xq_seq ?_
              refine xc_condf rfl ?_
              refine xc_skip ?_
              refine xq_block ?_
              refine xq_seq ?_
              refine xc_region ?_
              refine xo_rd (rd_move rfl) rfl ?_
              refine xo_rd (rd_addn rfl rfl (by omega) (by omega)) rfl ?_
              refine xo_rd (rd_assign rfl) rfl ?_
              refine xo_nil ?_
              rotate_left
            all_goals exact xq_roundK rfl (i + 1) (by omega) (by omega) (List.Sublist.refl _) (by repeat (first | exact keep_nil | refine keep_cons rfl ?_))
          · focus
              refine xc_seq ?_
              refine xc_seq ?_
              refine xc_region ?_
              refine xo_rd (rd_move rfl) rfl ?_
              refine xo_rd (rd_move rfl) rfl ?_
              refine xo_rd (rd_len rfl) rfl ?_
              refine xo_rd (rd_lss rfl rfl) rfl ?_
              refine xo_nil ?_
              refine xq_seq ?_
              refine xc_dec rfl (fun hq1 => ?_) (fun hq1 => (by exfalso; omega))
              refine xc_skip ?_
              refine xq_seq ?_
              refine xc_seq ?_
              refine xc_block ?_
              refine xc_seq ?_
              refine xc_region ?_
              refine xo_rd (rd_move rfl) rfl ?_
              refine xo_rd (rd_move rfl) rfl ?_
              refine xo_rd (rd_geq rfl rfl) rfl ?_
              refine xo_rd (rd_move rfl) rfl ?_
              refine xo_dec 98 rfl (fun hq2 => ?_) (fun hq2 => ?_)
              refine xo_grd rfl rfl (rd_move rfl) rfl ?_
              refine xo_grd rfl rfl (rd_move rfl) rfl ?_
              refine xo_grd rfl rfl (rd_len rfl) rfl ?_
              refine xo_grd rfl rfl (rd_subn rfl rfl (by omega) (by omega)) rfl ?_
              refine xo_grd rfl rfl (rd_lss rfl rfl) rfl ?_
              refine xo_rd (rd_pickt rfl rfl) rfl ?_
              refine xo_rd (rd_assign rfl) rfl ?_
              refine xo_nil ?_
              refine xq_seq ?_
              refine xc_seq ?_
              refine xc_drawML [0, 1, 2, 4, 4, 28, 36, 4, 4, 388, 516, 1092, 2052, 4100, 8192, 24576, 32768, 32768, 229376, 294912, 557056, 1089536, 2105344, 4227072, 8388608, 8388608, 41943040, 92274688, 142606336, 268435456, 268435456, 1879048192, 2415919104, 4563402752, 8858370048, 17456693248, 34368126976] [0, 1, 2, 4, 4, 28, 36, 4, 4, 388, 516, 1092, 2052, 4100, 8192, 24576, 32768, 32768, 229376, 294912, 557056, 1089536, 2105344, 4227072, 8388608, 8388608, 41943040, 92274688, 142606336, 268435456, 268435456, 1879048192, 2415919104, 4563402752, 8858370048, 17456693248, 34368126976] (by kernel_rfl) (by kernel_rfl) (by kernel_rfl) ?_
              refine xm_take 0 (m' := 1) rfl (by kernel_rfl) Sb.refl (rd_move rfl) rfl (by kernel_rfl) ?_
              refine xm_take 1 (m' := 3) rfl (by kernel_rfl) Sb.refl (rd_not rfl) rfl (by kernel_rfl) ?_
              refine xm_take 2 (m' := 7) rfl (by kernel_rfl) Sb.refl (rd_move rfl) rfl (by kernel_rfl) ?_
              refine xm_ndec 107 rfl (fun hq3 => ?_) (fun hq3 => (by exfalso; omega))
              refine xm_gtake 3 (m' := 15) rfl (by kernel_rfl) Sb.refl rfl rfl (rd_move rfl) rfl (by kernel_rfl) ?_
              refine xm_gtake 4 (m' := 31) rfl (by kernel_rfl) Sb.refl rfl rfl (rd_move rfl) rfl (by kernel_rfl) ?_
              refine xm_gtake 5 (m' := 63) rfl (by kernel_rfl) Sb.refl rfl rfl (rd_indexAddr rfl rfl (by omega) (by omega)) rfl (by kernel_rfl) ?_
              refine xm_gtake 6 (m' := 127) rfl (by kernel_rfl) Sb.refl rfl rfl (rd_load1 rfl hcd) rfl (by kernel_rfl) ?_
              refine xm_gtake 7 (m' := 255) rfl (by kernel_rfl) Sb.refl rfl rfl (rd_move rfl) rfl (by kernel_rfl) ?_
              refine xm_gtake 8 (m' := 511) rfl (by kernel_rfl) Sb.refl rfl rfl (rd_move rfl) rfl (by kernel_rfl) ?_
              refine xm_gtake 9 (m' := 1023) rfl (by kernel_rfl) Sb.refl rfl rfl (rd_indexAddr rfl rfl (by omega) (by omega)) rfl (by kernel_rfl) ?_
              refine xm_gtake 10 (m' := 2047) rfl (by kernel_rfl) Sb.refl rfl rfl (rd_load1 rfl hcb) rfl (by kernel_rfl) ?_
              refine xm_gtake 11 (m' := 4095) rfl (by kernel_rfl) Sb.refl rfl rfl (rd_neq rfl rfl) rfl (by kernel_rfl) ?_
              refine xm_take 12 (m' := 8191) rfl (by kernel_rfl) Sb.refl (rd_pickt rfl rfl) rfl (by kernel_rfl) ?_
              refine xm_take 13 (m' := 16383) rfl (by kernel_rfl) Sb.refl (rd_move rfl) rfl (by kernel_rfl) ?_
              refine xm_ndec 118 rfl (fun hq4 => (by exfalso; omega)) (fun hq4 => ?_)
              refine xm_gtake 14 (m' := 32767) rfl (by kernel_rfl) Sb.refl rfl rfl (rd_move rfl) rfl (by kernel_rfl) ?_
              refine xm_gtake 15 (m' := 65535) rfl (by kernel_rfl) Sb.refl rfl rfl (rd_move rfl) rfl (by kernel_rfl) ?_
              refine xm_dec 120 rfl (fun hq5 => (by exfalso; omega)) (fun hq5 => ?_)
              refine xm_gskip 16 (m' := 131071) rfl (by kernel_rfl) Sb.refl rfl rfl rfl rfl (by kernel_rfl) ?_
              refine xm_gskip 17 (m' := 262143) rfl (by kernel_rfl) Sb.refl rfl rfl rfl rfl (by kernel_rfl) ?_
              refine xm_gskip 18 (m' := 524287) rfl (by kernel_rfl) Sb.refl rfl rfl rfl rfl (by kernel_rfl) ?_
              refine xm_gskip 19 (m' := 1048575) rfl (by kernel_rfl) Sb.refl rfl rfl rfl rfl (by kernel_rfl) ?_
              refine xm_gskip 20 (m' := 2097151) rfl (by kernel_rfl) Sb.refl rfl rfl rfl rfl (by kernel_rfl) ?_
              refine xm_gtake 21 (m' := 4194303) rfl (by kernel_rfl) Sb.refl rfl rfl (rd_pickf rfl rfl) rfl (by kernel_rfl) ?_
              refine xm_take 22 (m' := 8388607) rfl (by kernel_rfl) Sb.refl (rd_pickf rfl rfl) rfl (by kernel_rfl) ?_
              refine xm_take 23 (m' := 16777215) rfl (by kernel_rfl) Sb.refl (rd_move rfl) rfl (by kernel_rfl) ?_
              refine xm_gtake 24 (m' := 33554431) rfl (by kernel_rfl) Sb.refl rfl rfl (rd_move rfl) rfl (by kernel_rfl) ?_
              refine xm_gtake 25 (m' := 67108863) rfl (by kernel_rfl) Sb.refl rfl rfl (rd_move rfl) rfl (by kernel_rfl) ?_
              refine xm_gtake 26 (m' := 134217727) rfl (by kernel_rfl) Sb.refl rfl rfl (rd_len rfl) rfl (by kernel_rfl) ?_
              refine xm_gtake 27 (m' := 268435455) rfl (by kernel_rfl) Sb.refl rfl rfl (rd_lss rfl rfl) rfl (by kernel_rfl) ?_
              refine xm_gtake 28 (m' := 536870911) rfl (by kernel_rfl) Sb.refl rfl rfl (rd_move rfl) rfl (by kernel_rfl) ?_
              refine xm_dec 133 rfl (fun hq6 => (by exfalso; omega)) (fun hq6 => ?_)
              refine xm_gskip 29 (m' := 1073741823) rfl (by kernel_rfl) Sb.refl rfl rfl rfl rfl (by kernel_rfl) ?_
              refine xm_gskip 30 (m' := 2147483647) rfl (by kernel_rfl) Sb.refl rfl rfl rfl rfl (by kernel_rfl) ?_
              refine xm_gskip 31 (m' := 4294967295) rfl (by kernel_rfl) Sb.refl rfl rfl rfl rfl (by kernel_rfl) ?_
              refine xm_gskip 32 (m' := 8589934591) rfl (by kernel_rfl) Sb.refl rfl rfl rfl rfl (by kernel_rfl) ?_
              refine xm_gskip 33 (m' := 17179869183) rfl (by kernel_rfl) Sb.refl rfl rfl rfl rfl (by kernel_rfl) ?_
              refine xm_gskip 34 (m' := 34359738367) rfl (by kernel_rfl) Sb.refl rfl rfl rfl rfl (by kernel_rfl) ?_
              refine xm_gtake 35 (m' := 68719476735) rfl (by kernel_rfl) Sb.refl rfl rfl (rd_pickf rfl rfl) rfl (by kernel_rfl) ?_
              refine xm_take 36 (m' := 137438953471) rfl (by kernel_rfl) Sb.refl (rd_pickf rfl rfl) rfl (by kernel_rfl) ?_
              refine xm_done (by kernel_rfl) ?_
              refine xq_seq ?_
              refine xc_condf rfl ?_
              refine xc_skip ?_
              refine xq_block ?_
              refine xq_seq ?_
              refine xc_region ?_
              refine xo_rd (rd_move rfl) rfl ?_
              refine xo_rd (rd_addn rfl rfl (by omega) (by omega)) rfl ?_
              refine xo_rd (rd_assign rfl) rfl ?_
              refine xo_nil ?_
              rotate_left
              refine xo_gskip rfl rfl rfl rfl ?_
              refine xo_gskip rfl rfl rfl rfl ?_
              refine xo_gskip rfl rfl rfl rfl ?_
              refine xo_gskip rfl rfl rfl rfl ?_
              refine xo_gskip rfl rfl rfl rfl ?_
              refine xo_rd (rd_pickf rfl rfl) rfl ?_
              refine xo_rd (rd_assign rfl) rfl ?_
              refine xo_nil ?_
              refine xq_seq ?_
              refine xc_seq ?_
              refine xc_drawML [0, 1, 2, 4, 4, 28, 36, 4, 4, 388, 516, 1092, 2052, 4100, 8192, 24576, 32768, 32768, 229376, 294912, 557056, 1089536, 2105344, 4227072, 8388608, 8388608, 41943040, 92274688, 142606336, 268435456, 268435456, 1879048192, 2415919104, 4563402752, 8858370048, 17456693248, 34368126976] [0, 1, 2, 4, 4, 28, 36, 4, 4, 388, 516, 1092, 2052, 4100, 8192, 24576, 32768, 32768, 229376, 294912, 557056, 1089536, 2105344, 4227072, 8388608, 8388608, 41943040, 92274688, 142606336, 268435456, 268435456, 1879048192, 2415919104, 4563402752, 8858370048, 17456693248, 34368126976] (by kernel_rfl) (by kernel_rfl) (by kernel_rfl) ?_
              refine xm_take 0 (m' := 1) rfl (by kernel_rfl) Sb.refl (rd_move rfl) rfl (by kernel_rfl) ?_
              refine xm_take 1 (m' := 3) rfl (by kernel_rfl) Sb.refl (rd_not rfl) rfl (by kernel_rfl) ?_
              refine xm_take 2 (m' := 7) rfl (by kernel_rfl) Sb.refl (rd_move rfl) rfl (by kernel_rfl) ?_
              refine xm_gtake 3 (m' := 15) rfl (by kernel_rfl) Sb.refl rfl rfl (rd_move rfl) rfl (by kernel_rfl) ?_
              refine xm_gtake 4 (m' := 31) rfl (by kernel_rfl) Sb.refl rfl rfl (rd_move rfl) rfl (by kernel_rfl) ?_
              refine xm_gtake 5 (m' := 63) rfl (by kernel_rfl) Sb.refl rfl rfl (rd_indexAddr rfl rfl (by omega) (by omega)) rfl (by kernel_rfl) ?_
              refine xm_gtake 6 (m' := 127) rfl (by kernel_rfl) Sb.refl rfl rfl (rd_load1 rfl hcd) rfl (by kernel_rfl) ?_
              refine xm_gtake 7 (m' := 255) rfl (by kernel_rfl) Sb.refl rfl rfl (rd_move rfl) rfl (by kernel_rfl) ?_
              refine xm_gtake 8 (m' := 511) rfl (by kernel_rfl) Sb.refl rfl rfl (rd_move rfl) rfl (by kernel_rfl) ?_
              refine xm_gtake 9 (m' := 1023) rfl (by kernel_rfl) Sb.refl rfl rfl (rd_indexAddr rfl rfl (by omega) (by omega)) rfl (by kernel_rfl) ?_
              refine xm_gtake 10 (m' := 2047) rfl (by kernel_rfl) Sb.refl rfl rfl (rd_load1 rfl hcb) rfl (by kernel_rfl) ?_
              refine xm_gtake 11 (m' := 4095) rfl (by kernel_rfl) Sb.refl rfl rfl (rd_neq rfl rfl) rfl (by kernel_rfl) ?_
              refine xm_take 12 (m' := 8191) rfl (by kernel_rfl) Sb.refl (rd_pickt rfl rfl) rfl (by kernel_rfl) ?_
              refine xm_take 13 (m' := 16383) rfl (by kernel_rfl) Sb.refl (rd_move rfl) rfl (by kernel_rfl) ?_
              refine xm_ndec 118 rfl (fun hq7 => (by exfalso; omega)) (fun hq7 => ?_)
              refine xm_gtake 14 (m' := 32767) rfl (by kernel_rfl) Sb.refl rfl rfl (rd_move rfl) rfl (by kernel_rfl) ?_
              refine xm_gtake 15 (m' := 65535) rfl (by kernel_rfl) Sb.refl rfl rfl (rd_move rfl) rfl (by kernel_rfl) ?_
              refine xm_gskip 16 (m' := 131071) rfl (by kernel_rfl) Sb.refl rfl rfl rfl rfl (by kernel_rfl) ?_
              refine xm_gskip 17 (m' := 262143) rfl (by kernel_rfl) Sb.refl rfl rfl rfl rfl (by kernel_rfl) ?_
              refine xm_gskip 18 (m' := 524287) rfl (by kernel_rfl) Sb.refl rfl rfl rfl rfl (by kernel_rfl) ?_
              refine xm_gskip 19 (m' := 1048575) rfl (by kernel_rfl) Sb.refl rfl rfl rfl rfl (by kernel_rfl) ?_
              refine xm_gskip 20 (m' := 2097151) rfl (by kernel_rfl) Sb.refl rfl rfl rfl rfl (by kernel_rfl) ?_
              refine xm_gtake 21 (m' := 4194303) rfl (by kernel_rfl) Sb.refl rfl rfl (rd_pickf rfl rfl) rfl (by kernel_rfl) ?_
              refine xm_take 22 (m' := 8388607) rfl (by kernel_rfl) Sb.refl (rd_pickf rfl rfl) rfl (by kernel_rfl) ?_
              refine xm_take 23 (m' := 16777215) rfl (by kernel_rfl) Sb.refl (rd_move rfl) rfl (by kernel_rfl) ?_
              refine xm_gtake 24 (m' := 33554431) rfl (by kernel_rfl) Sb.refl rfl rfl (rd_move rfl) rfl (by kernel_rfl) ?_
              refine xm_gtake 25 (m' := 67108863) rfl (by kernel_rfl) Sb.refl rfl rfl (rd_move rfl) rfl (by kernel_rfl) ?_
              refine xm_gtake 26 (m' := 134217727) rfl (by kernel_rfl) Sb.refl rfl rfl (rd_len rfl) rfl (by kernel_rfl) ?_
              refine xm_gtake 27 (m' := 268435455) rfl (by kernel_rfl) Sb.refl rfl rfl (rd_lss rfl rfl) rfl (by kernel_rfl) ?_
              refine xm_gtake 28 (m' := 536870911) rfl (by kernel_rfl) Sb.refl rfl rfl (rd_move rfl) rfl (by kernel_rfl) ?_
              refine xm_dec 133 rfl (fun hq8 => (by exfalso; omega)) (fun hq8 => ?_)
              refine xm_gskip 29 (m' := 1073741823) rfl (by kernel_rfl) Sb.refl rfl rfl rfl rfl (by kernel_rfl) ?_
              refine xm_gskip 30 (m' := 2147483647) rfl (by kernel_rfl) Sb.refl rfl rfl rfl rfl (by kernel_rfl) ?_
              refine xm_gskip 31 (m' := 4294967295) rfl (by kernel_rfl) Sb.refl rfl rfl rfl rfl (by kernel_rfl) ?_
              refine xm_gskip 32 (m' := 8589934591) rfl (by kernel_rfl) Sb.refl rfl rfl rfl rfl (by kernel_rfl) ?_
              refine xm_gskip 33 (m' := 17179869183) rfl (by kernel_rfl) Sb.refl rfl rfl rfl rfl (by kernel_rfl) ?_
              refine xm_gskip 34 (m' := 34359738367) rfl (by kernel_rfl) Sb.refl rfl rfl rfl rfl (by kernel_rfl) ?_
              refine xm_gtake 35 (m' := 68719476735) rfl (by kernel_rfl) Sb.refl rfl rfl (rd_pickf rfl rfl) rfl (by kernel_rfl) ?_
              refine xm_take 36 (m' := 137438953471) rfl (by kernel_rfl) Sb.refl (rd_pickf rfl rfl) rfl (by kernel_rfl) ?_
              refine xm_done (by kernel_rfl) ?_
              refine xq_seq ?_
              refine xc_condf rfl ?_
              refine xc_skip ?_
              refine xq_block ?_
              refine xq_seq ?_
              refine xc_region ?_
              refine xo_rd (rd_move rfl) rfl ?_
              refine xo_rd (rd_addn rfl rfl (by omega) (by omega)) rfl ?_
              refine xo_rd (rd_assign rfl) rfl ?_
              refine xo_nil ?_
              rotate_left
            all_goals exact xq_roundK rfl (i + 1) (by omega) (by omega) (List.Sublist.refl _) (by repeat (first | exact keep_nil | refine keep_cons rfl ?_))
      · skip
        focus
          refine xc_seq ?_
          refine xc_seq ?_
          refine xc_region ?_
          refine xo_rd (rd_move rfl) rfl ?_
          refine xo_rd (rd_move rfl) rfl ?_
          refine xo_rd (rd_len rfl) rfl ?_
          refine xo_rd (rd_lss rfl rfl) rfl ?_
          refine xo_nil ?_
          refine xq_seq ?_
          refine xc_dec rfl (fun h1 => (by exfalso; omega)) (fun h1 => ?_)
          refine xc_exit ?_
          refine xq_then_exit ?_
          refine xq_then_exit ?_
          refine xq_block_hit ?_
          refine xq_seq ?_
          refine xc_seq ?_
          refine xc_region ?_
          refine xo_ef rfl (ef_call rfl (XF.mono (xf_any (fun W => xf_works)) ?_))
          rintro v L' ⟨rfl, rfl⟩
          refine xo_rd (rd_assign rfl) rfl ?_
          refine xo_nil ?_
          refine xq_seq ?_
          refine xc_ret ?_
          exact xq_ret1 (.inl rfl) Try.results4 rfl (rfl)
    · skip
      have hq0 : qs = [] := by
        have := splitL_err (bs.length + 1) true bs (by rw [hs]; exact hf)
        rw [hs] at this
        exact this
      subst hq0
      focus
        refine xc_seq ?_
        refine xc_region ?_
        refine xo_rd (rd_move rfl) rfl ?_
        refine xo_ef rfl (ef_call rfl (XF.mono (xf_split2 pb m cb bs [] _ hs hxb hrb.nilL hb hc (by omega)) ?_))
        rintro v L' ⟨ys, sy, ky, ly, rfl, hyq, hyo, hyr, hys, rfl⟩
        refine xo_rd (rd_move rfl) rfl ?_
        refine xo_rd (rd_extract rfl rfl) rfl ?_
        refine xo_rd (rd_extract rfl rfl) rfl ?_
        refine xo_rd (rd_assign rfl) rfl ?_
        refine xo_rd (rd_assign rfl) rfl ?_
        refine xo_nil ?_
        refine xq_seq ?_
        refine xc_seq ?_
        refine xc_seq ?_
        refine xc_region ?_
        refine xo_rd (rd_move rfl) rfl ?_
        refine xo_rd (rd_neq rfl rfl) rfl ?_
        refine xo_nil ?_
        refine xq_seq ?_
        refine xc_ndec rfl (fun hq1 => ?_) (fun hq1 => (by exfalso; omega))
      have hyl : ys.length = 0 := by have := congrArg List.length hyq; simpa using this
      focus
        refine xc_seq ?_
        refine xc_region ?_
        refine xo_rd (rd_move rfl) rfl ?_
        refine xo_rd (rd_len rfl) rfl ?_
        refine xo_rd (rd_eql rfl rfl) rfl ?_
        refine xo_rd (rd_move rfl) rfl ?_
        refine xo_dec 56 rfl (fun h1 => ?_) (fun h1 => (by exfalso; omega))
        refine xo_gef rfl rfl rfl (ef_call rfl (XF.mono (xf_any (fun W => xf_works)) ?_))
        rintro v L' ⟨rfl, rfl⟩
        refine xo_rd (rd_pickt rfl rfl) rfl ?_
        refine xo_rd (rd_assign rfl) rfl ?_
        refine xo_nil ?_
        refine xq_seq ?_
        refine xc_ret ?_
        refine xq_then_ret ?_
        exact xq_ret1 (.inl rfl) Try.results4 rfl (rfl)
end Go.Proofs.Ytohlaabclifbfaa.X
/-
  The reader of a body: what it takes off, and its small functions' walks.
-/
namespace Go.Proofs.Ytohlaabclifbfaa.X
open Go Go.RowKit
set_option linter.unusedVariables false
set_option linter.unusedSimpArgs false
structure Rd where
  l : List Int
  k : Nat
  bad : Bool
/-- So many bytes are taken off. -/
def Rd.take (r : Rd) (n : Nat) : List Int × Rd := if r.bad = true ∨ r.l.length < n then (List.replicate n 0, ⟨r.l, r.k, true⟩) else (r.l.take n, ⟨r.l.drop n, r.k + n, false⟩)
def rdC (p : Option Addr) (c : Nat) (r : Rd) : List Value := [.slice p r.l.length c, .int .i64 r.k, .bool r.bad]
structure Rd.Ok (r : Rd) (K : Nat) : Prop where
  by' : ∀ x, x ∈ r.l → By x
  sz : r.k + r.l.length ≤ K
theorem Rd.take_len (r : Rd) (n : Nat) : (r.take n).1.length = n := by
  unfold Rd.take
  split
  · simp
  · rw [List.length_take]; omega
theorem Rd.take_by {r : Rd} {K : Nat} (h : r.Ok K) (n : Nat) : (∀ x, x ∈ (r.take n).1 → By x) ∧ (r.take n).2.Ok K := by
  unfold Rd.take
  split
  · exact ⟨fun x hx => by rw [(List.mem_replicate.1 hx).2]; exact ⟨by decide, by decide⟩, h.by', h.sz⟩
  · refine ⟨fun x hx => h.by' x (List.mem_of_mem_take hx), fun x hx => h.by' x (List.mem_of_mem_drop hx), ?_⟩
    have := h.sz
    dsimp only
    rw [List.length_drop]; omega
theorem Rd.take_bad {r : Rd} {n : Nat} (h : r.bad = true ∨ r.l.length < n) : r.take n = (List.replicate n 0, ⟨r.l, r.k, true⟩) := by unfold Rd.take; rw [if_pos h]
theorem Rd.take_ok {r : Rd} {n : Nat} (h : ¬ (r.bad = true ∨ r.l.length < n)) : r.take n = (r.l.take n, ⟨r.l.drop n, r.k + n, false⟩) := by unfold Rd.take; rw [if_neg h]
/-- The reader, behind what was read. -/
def RdN (W : World) (L : List Blk) (b : Nat) (p : Option Addr) (r r' : Rd) (L' : List Blk) : Prop :=
  ∃ p' c', (∀ L0, Rs W L0 p (ints .u8 r.l) → Rs W L0 p' (ints .u8 r'.l)) ∧ r'.l.length ≤ c' ∧ L' = (b, .cells (rdC p' c' r').toArray 116 (0, 0)) :: L
set_option maxHeartbeats 4000000 in
theorem xf_bts {W : World} {L : List Blk} (b : Nat) (p : Option Addr) (c : Nat) (r : Rd) (n : Nat) (hr : Rs W L p (ints .u8 r.l)) (hc : r.l.length ≤ c) (hk : r.k + r.l.length ≤ 1000000000) (hn : n ≤ 1000000) :
    XF Try.prog W 75 #[.pointer (some ⟨b, 0, none⟩), .int .i64 n] ((b, .cells (rdC p c r).toArray 116 (0, 0)) :: L) (fun v L' => ∃ q k l, v = .slice q n k ∧ n ≤ k ∧ Rs W (l ++ L) q (ints .u8 (r.take n).1) ∧ RdN W (l ++ L) b p r (r.take n).2 L') := by
  refine xf_enter (args := [_, _]) Try.func75 rfl Try.ntmps75 rfl ?_
  obtain ⟨xs, at', bad⟩ := r
  dsimp only at hr hc hk
  unfold rdC
  by_cases hbad : bad = true ∨ xs.length < n
  · rw [Rd.take_bad hbad]
    dsimp only
    have hfin : ∀ r22 : Nat, Rs W ([(r22, Obj.cells (List.replicate n (.int .u8 0)).toArray 5 (0, 0))] ++ L) (some ⟨r22, 0, none⟩) (ints .u8 (List.replicate n 0)) := fun r22 => by
      rw [ints_rep]; exact Rs.fresh (List.Mem.head _)
    cases bad with
    | true =>
      focus
        refine xc_seq ?_
        refine xc_region ?_
        refine xo_rd (rd_assign rfl) rfl ?_
        refine xo_nil ?_
        refine xq_seq ?_
        refine xc_seq ?_
        refine xc_seq ?_
        refine xc_region ?_
        refine xo_rd (rd_move rfl) rfl ?_
        refine xo_rd (rd_nilCheck rfl) rfl ?_
        refine xo_rd (rd_fieldAddr rfl) rfl ?_
        refine xo_rd (rd_load1 rfl (Cl.o0 rfl)) rfl ?_
        refine xo_rd (rd_move rfl) rfl ?_
        refine xo_gskip rfl rfl rfl rfl ?_
        refine xo_gskip rfl rfl rfl rfl ?_
        refine xo_gskip rfl rfl rfl rfl ?_
        refine xo_gskip rfl rfl rfl rfl ?_
        refine xo_gskip rfl rfl rfl rfl ?_
        refine xo_gskip rfl rfl rfl rfl ?_
        refine xo_gskip rfl rfl rfl rfl ?_
        refine xo_rd (rd_pickt rfl rfl) rfl ?_
        refine xo_nil ?_
        refine xq_seq ?_
        refine xc_condt rfl ?_
        refine xc_seq ?_
        refine xc_region ?_
        refine xo_rd (rd_move rfl) rfl ?_
        refine xo_rd (rd_nilCheck rfl) rfl ?_
        refine xo_rd (rd_fieldAddr rfl) rfl ?_
        refine xo_ef rfl (ef_store1 [] _ rfl rfl (by first | rfl | assumption) rfl rfl rfl ?_)
        refine xo_nil ?_
        refine xq_seq ?_
        refine xc_seq ?_
        refine xc_region ?_
        refine xo_rd (rd_move rfl) rfl ?_
        refine xo_ef rfl (ef_makeSlice rfl rfl rfl (by omega) (by omega) (by omega) (by decide) fun r23 => ?_)
        refine xo_rd (rd_assign rfl) rfl ?_
        refine xo_nil ?_
        refine xq_seq ?_
        refine xc_ret ?_
        refine xq_then_ret ?_
      refine xq_perm (List.Perm.swap _ _ _) ?_
      exact xq_ret1 (.inl rfl) Try.results75 rfl ⟨_, _, _, rfl, Nat.le_refl _, hfin _, p, c, (fun _ h => h), hc, rfl⟩
    | false =>
      have hlt : xs.length < n := by simpa using hbad
      focus
        refine xc_seq ?_
        refine xc_region ?_
        refine xo_rd (rd_assign rfl) rfl ?_
        refine xo_nil ?_
        refine xq_seq ?_
        refine xc_seq ?_
        refine xc_seq ?_
        refine xc_region ?_
        refine xo_rd (rd_move rfl) rfl ?_
        refine xo_rd (rd_nilCheck rfl) rfl ?_
        refine xo_rd (rd_fieldAddr rfl) rfl ?_
        refine xo_rd (rd_load1 rfl (Cl.o0 rfl)) rfl ?_
        refine xo_rd (rd_move rfl) rfl ?_
        refine xo_grd rfl rfl (rd_move rfl) rfl ?_
        refine xo_grd rfl rfl (rd_nilCheck rfl) rfl ?_
        refine xo_grd rfl rfl (rd_fieldAddr rfl) rfl ?_
        refine xo_grd rfl rfl (rd_load1 rfl (Cl.o0 rfl)) rfl ?_
        refine xo_grd rfl rfl (rd_len rfl) rfl ?_
        refine xo_grd rfl rfl (rd_move rfl) rfl ?_
        refine xo_grd rfl rfl (rd_lss rfl rfl) rfl ?_
        refine xo_rd (rd_pickf rfl rfl) rfl ?_
        refine xo_nil ?_
        refine xq_seq ?_
        refine xc_dec rfl (fun h1 => ?_) (fun h1 => (by exfalso; omega))
        refine xc_seq ?_
        refine xc_region ?_
        refine xo_rd (rd_move rfl) rfl ?_
        refine xo_rd (rd_nilCheck rfl) rfl ?_
        refine xo_rd (rd_fieldAddr rfl) rfl ?_
        refine xo_ef rfl (ef_store1 [] _ rfl rfl (by first | rfl | assumption) rfl rfl rfl ?_)
        refine xo_nil ?_
        refine xq_seq ?_
        refine xc_seq ?_
        refine xc_region ?_
        refine xo_rd (rd_move rfl) rfl ?_
        refine xo_ef rfl (ef_makeSlice rfl rfl rfl (by omega) (by omega) (by omega) (by decide) fun r23 => ?_)
        refine xo_rd (rd_assign rfl) rfl ?_
        refine xo_nil ?_
        refine xq_seq ?_
        refine xc_ret ?_
        refine xq_then_ret ?_
      refine xq_perm (List.Perm.swap _ _ _) ?_
      exact xq_ret1 (.inl rfl) Try.results75 rfl ⟨_, _, _, rfl, Nat.le_refl _, hfin _, p, c, (fun _ h => h), hc, rfl⟩
  · rw [Rd.take_ok hbad]
    dsimp only
    obtain ⟨rfl, hle⟩ : bad = false ∧ n ≤ xs.length := by
      cases bad
      · exact ⟨rfl, by simpa using hbad⟩
      · exact absurd (.inl rfl) hbad
    focus
      refine xc_seq ?_
      refine xc_region ?_
      refine xo_rd (rd_assign rfl) rfl ?_
      refine xo_nil ?_
      refine xq_seq ?_
      refine xc_seq ?_
      refine xc_seq ?_
      refine xc_region ?_
      refine xo_rd (rd_move rfl) rfl ?_
      refine xo_rd (rd_nilCheck rfl) rfl ?_
      refine xo_rd (rd_fieldAddr rfl) rfl ?_
      refine xo_rd (rd_load1 rfl (Cl.o0 rfl)) rfl ?_
      refine xo_rd (rd_move rfl) rfl ?_
      refine xo_grd rfl rfl (rd_move rfl) rfl ?_
      refine xo_grd rfl rfl (rd_nilCheck rfl) rfl ?_
      refine xo_grd rfl rfl (rd_fieldAddr rfl) rfl ?_
      refine xo_grd rfl rfl (rd_load1 rfl (Cl.o0 rfl)) rfl ?_
      refine xo_grd rfl rfl (rd_len rfl) rfl ?_
      refine xo_grd rfl rfl (rd_move rfl) rfl ?_
      refine xo_grd rfl rfl (rd_lss rfl rfl) rfl ?_
      refine xo_rd (rd_pickf rfl rfl) rfl ?_
      refine xo_nil ?_
      refine xq_seq ?_
      refine xc_dec rfl (fun h1 => (by exfalso; omega)) (fun h1 => ?_)
      refine xc_skip ?_
      refine xq_seq ?_
      refine xc_seq ?_
      refine xc_region ?_
      refine xo_rd (rd_move rfl) rfl ?_
      refine xo_rd (rd_nilCheck rfl) rfl ?_
      refine xo_rd (rd_fieldAddr rfl) rfl ?_
      refine xo_rd (rd_load1 rfl (Cl.o0 rfl)) rfl ?_
      refine xo_rd (rd_move rfl) rfl ?_
      refine xo_rd (rd_slHi rfl rfl (by omega) (by omega)) rfl ?_
      refine xo_rd (rd_assign rfl) rfl ?_
      refine xo_nil ?_
      refine xq_seq ?_
      refine xc_seq ?_
      refine xc_drawM [0, 0, 0, 4, 8, 16, 0, 96, 0, 256, 512, 1024, 0, 6144, 2301, 18685, 35069, 131071, 262143, 393215] [0, 0, 0, 4, 8, 16, 0, 96, 0, 256, 512, 1024, 0, 6144, 2301, 18685, 35069, 131071, 262143, 393215] [] (by kernel_rfl) (by kernel_rfl) (by kernel_rfl) ?_
      refine xm_take 0 (m' := 1) rfl (by kernel_rfl) (by first | exact Sb.refl | exact Sb.nil | (repeat (first | exact Sb.nil | exact Sb.refl | exact Sb.app0 | apply Sb.keep | apply Sb.keepApp | apply Sb.cons | apply Sb.app))) (rd_move rfl) rfl (by kernel_rfl) ?_
      refine xm_take 1 (m' := 3) rfl (by kernel_rfl) (by first | exact Sb.refl | exact Sb.nil | (repeat (first | exact Sb.nil | exact Sb.refl | exact Sb.app0 | apply Sb.keep | apply Sb.keepApp | apply Sb.cons | apply Sb.app))) (rd_move rfl) rfl (by kernel_rfl) ?_
      refine xm_take 2 (m' := 7) rfl (by kernel_rfl) (by first | exact Sb.refl | exact Sb.nil | (repeat (first | exact Sb.nil | exact Sb.refl | exact Sb.app0 | apply Sb.keep | apply Sb.keepApp | apply Sb.cons | apply Sb.app))) (rd_move rfl) rfl (by kernel_rfl) ?_
      refine xm_take 3 (m' := 15) rfl (by kernel_rfl) (by first | exact Sb.refl | exact Sb.nil | (repeat (first | exact Sb.nil | exact Sb.refl | exact Sb.app0 | apply Sb.keep | apply Sb.keepApp | apply Sb.cons | apply Sb.app))) (rd_nilCheck rfl) rfl (by kernel_rfl) ?_
      refine xm_take 4 (m' := 31) rfl (by kernel_rfl) (by first | exact Sb.refl | exact Sb.nil | (repeat (first | exact Sb.nil | exact Sb.refl | exact Sb.app0 | apply Sb.keep | apply Sb.keepApp | apply Sb.cons | apply Sb.app))) (rd_fieldAddr rfl) rfl (by kernel_rfl) ?_
      refine xm_take 6 (m' := 95) rfl (by kernel_rfl) (by first | exact Sb.refl | exact Sb.nil | (repeat (first | exact Sb.nil | exact Sb.refl | exact Sb.app0 | apply Sb.keep | apply Sb.keepApp | apply Sb.cons | apply Sb.app))) (rd_move rfl) rfl (by kernel_rfl) ?_
      refine xm_take 8 (m' := 351) rfl (by kernel_rfl) (by first | exact Sb.refl | exact Sb.nil | (repeat (first | exact Sb.nil | exact Sb.refl | exact Sb.app0 | apply Sb.keep | apply Sb.keepApp | apply Sb.cons | apply Sb.app))) (rd_move rfl) rfl (by kernel_rfl) ?_
      refine xm_take 9 (m' := 863) rfl (by kernel_rfl) (by first | exact Sb.refl | exact Sb.nil | (repeat (first | exact Sb.nil | exact Sb.refl | exact Sb.app0 | apply Sb.keep | apply Sb.keepApp | apply Sb.cons | apply Sb.app))) (rd_nilCheck rfl) rfl (by kernel_rfl) ?_
      refine xm_take 10 (m' := 1887) rfl (by kernel_rfl) (by first | exact Sb.refl | exact Sb.nil | (repeat (first | exact Sb.nil | exact Sb.refl | exact Sb.app0 | apply Sb.keep | apply Sb.keepApp | apply Sb.cons | apply Sb.app))) (rd_fieldAddr rfl) rfl (by kernel_rfl) ?_
      refine xm_take 12 (m' := 5983) rfl (by kernel_rfl) (by first | exact Sb.refl | exact Sb.nil | (repeat (first | exact Sb.nil | exact Sb.refl | exact Sb.app0 | apply Sb.keep | apply Sb.keepApp | apply Sb.cons | apply Sb.app))) (rd_move rfl) rfl (by kernel_rfl) ?_
      refine xm_two 5 11 (mi := 6015) (mk := 8031) rfl rfl (by kernel_rfl) rfl rfl (by kernel_rfl) (by kernel_rfl) (ef_rd (rd_load1 rfl (Cl.o0 rfl)) ⟨(by first | exact Sb.refl | exact Sb.nil | (repeat (first | exact Sb.nil | exact Sb.refl | exact Sb.app0 | apply Sb.keep | apply Sb.keepApp | apply Sb.cons | apply Sb.app))), ?_⟩) (ef_rd (rd_load1 rfl (Cl.o0 rfl)) ⟨(by first | exact Sb.refl | exact Sb.nil | (repeat (first | exact Sb.nil | exact Sb.refl | exact Sb.app0 | apply Sb.keep | apply Sb.keepApp | apply Sb.cons | apply Sb.app))), ?_⟩)
      refine xm_take 7 (m' := 6143) rfl (by kernel_rfl) (by first | exact Sb.refl | exact Sb.nil | (repeat (first | exact Sb.nil | exact Sb.refl | exact Sb.app0 | apply Sb.keep | apply Sb.keepApp | apply Sb.cons | apply Sb.app))) (rd_slLo rfl rfl (by omega) (by omega)) rfl (by kernel_rfl) ?_
      refine xm_one 11 (m' := 8191) rfl (by kernel_rfl) rfl (by kernel_rfl) (ef_rd (rd_load1 rfl (Cl.o0 rfl)) ?_)
      refine ⟨(by first | exact Sb.refl | exact Sb.nil | (repeat (first | exact Sb.nil | exact Sb.refl | exact Sb.app0 | apply Sb.keep | apply Sb.keepApp | apply Sb.cons | apply Sb.app))), ?_⟩
      refine xm_take 13 (m' := 16383) rfl (by kernel_rfl) (by first | exact Sb.refl | exact Sb.nil | (repeat (first | exact Sb.nil | exact Sb.refl | exact Sb.app0 | apply Sb.keep | apply Sb.keepApp | apply Sb.cons | apply Sb.app))) (rd_addn rfl rfl (by omega) (by omega)) rfl (by kernel_rfl) ?_
      refine xm_take 14 (m' := 32767) rfl (by kernel_rfl) (by first | exact Sb.refl | exact Sb.nil | (repeat (first | exact Sb.nil | exact Sb.refl | exact Sb.app0 | apply Sb.keep | apply Sb.keepApp | apply Sb.cons | apply Sb.app))) (rd_nilCheck rfl) rfl (by kernel_rfl) ?_
      refine xm_take 15 (m' := 65535) rfl (by kernel_rfl) (by first | exact Sb.refl | exact Sb.nil | (repeat (first | exact Sb.nil | exact Sb.refl | exact Sb.app0 | apply Sb.keep | apply Sb.keepApp | apply Sb.cons | apply Sb.app))) (rd_fieldAddr rfl) rfl (by kernel_rfl) ?_
      refine xm_one 16 (m' := 131071) rfl (by kernel_rfl) rfl (by kernel_rfl) (ef_store1 [] _ rfl rfl (by first | rfl | assumption) rfl rfl rfl ?_)
      refine ⟨(by first | exact Sb.refl | exact Sb.nil | (repeat (first | exact Sb.nil | exact Sb.refl | exact Sb.app0 | apply Sb.keep | apply Sb.keepApp | apply Sb.cons | apply Sb.app))), ?_⟩
      refine xm_take 17 (m' := 262143) rfl (by kernel_rfl) (by first | exact Sb.refl | exact Sb.nil | (repeat (first | exact Sb.nil | exact Sb.refl | exact Sb.app0 | apply Sb.keep | apply Sb.keepApp | apply Sb.cons | apply Sb.app))) (rd_nilCheck rfl) rfl (by kernel_rfl) ?_
      refine xm_take 18 (m' := 524287) rfl (by kernel_rfl) (by first | exact Sb.refl | exact Sb.nil | (repeat (first | exact Sb.nil | exact Sb.refl | exact Sb.app0 | apply Sb.keep | apply Sb.keepApp | apply Sb.cons | apply Sb.app))) (rd_fieldAddr rfl) rfl (by kernel_rfl) ?_
      refine xm_one 19 (m' := 1048575) rfl (by kernel_rfl) rfl (by kernel_rfl) (ef_store1 [] _ rfl rfl (by first | rfl | assumption) rfl rfl rfl ?_)
      refine ⟨(by first | exact Sb.refl | exact Sb.nil | (repeat (first | exact Sb.nil | exact Sb.refl | exact Sb.app0 | apply Sb.keep | apply Sb.keepApp | apply Sb.cons | apply Sb.app))), ?_⟩
      refine xm_done (by kernel_rfl) ?_
      refine xq_seq ?_
      refine xc_seq ?_
      refine xc_region ?_
      refine xo_rd (rd_move rfl) rfl ?_
      refine xo_rd (rd_assign rfl) rfl ?_
      refine xo_nil ?_
      refine xq_seq ?_
      refine xc_ret ?_
      rotate_left
      refine xm_take 13 (m' := 16223) rfl (by kernel_rfl) (by first | exact Sb.refl | exact Sb.nil | (repeat (first | exact Sb.nil | exact Sb.refl | exact Sb.app0 | apply Sb.keep | apply Sb.keepApp | apply Sb.cons | apply Sb.app))) (rd_addn rfl rfl (by omega) (by omega)) rfl (by kernel_rfl) ?_
      refine xm_one 5 (m' := 16255) rfl (by kernel_rfl) rfl (by kernel_rfl) (ef_rd (rd_load1 rfl (Cl.o0 rfl)) ?_)
      refine ⟨(by first | exact Sb.refl | exact Sb.nil | (repeat (first | exact Sb.nil | exact Sb.refl | exact Sb.app0 | apply Sb.keep | apply Sb.keepApp | apply Sb.cons | apply Sb.app))), ?_⟩
      refine xm_take 7 (m' := 16383) rfl (by kernel_rfl) (by first | exact Sb.refl | exact Sb.nil | (repeat (first | exact Sb.nil | exact Sb.refl | exact Sb.app0 | apply Sb.keep | apply Sb.keepApp | apply Sb.cons | apply Sb.app))) (rd_slLo rfl rfl (by omega) (by omega)) rfl (by kernel_rfl) ?_
      refine xm_take 14 (m' := 32767) rfl (by kernel_rfl) (by first | exact Sb.refl | exact Sb.nil | (repeat (first | exact Sb.nil | exact Sb.refl | exact Sb.app0 | apply Sb.keep | apply Sb.keepApp | apply Sb.cons | apply Sb.app))) (rd_nilCheck rfl) rfl (by kernel_rfl) ?_
      refine xm_take 15 (m' := 65535) rfl (by kernel_rfl) (by first | exact Sb.refl | exact Sb.nil | (repeat (first | exact Sb.nil | exact Sb.refl | exact Sb.app0 | apply Sb.keep | apply Sb.keepApp | apply Sb.cons | apply Sb.app))) (rd_fieldAddr rfl) rfl (by kernel_rfl) ?_
      refine xm_one 16 (m' := 131071) rfl (by kernel_rfl) rfl (by kernel_rfl) (ef_store1 [] _ rfl rfl (by first | rfl | assumption) rfl rfl rfl ?_)
      refine ⟨(by first | exact Sb.refl | exact Sb.nil | (repeat (first | exact Sb.nil | exact Sb.refl | exact Sb.app0 | apply Sb.keep | apply Sb.keepApp | apply Sb.cons | apply Sb.app))), ?_⟩
      refine xm_take 17 (m' := 262143) rfl (by kernel_rfl) (by first | exact Sb.refl | exact Sb.nil | (repeat (first | exact Sb.nil | exact Sb.refl | exact Sb.app0 | apply Sb.keep | apply Sb.keepApp | apply Sb.cons | apply Sb.app))) (rd_nilCheck rfl) rfl (by kernel_rfl) ?_
      refine xm_take 18 (m' := 524287) rfl (by kernel_rfl) (by first | exact Sb.refl | exact Sb.nil | (repeat (first | exact Sb.nil | exact Sb.refl | exact Sb.app0 | apply Sb.keep | apply Sb.keepApp | apply Sb.cons | apply Sb.app))) (rd_fieldAddr rfl) rfl (by kernel_rfl) ?_
      refine xm_one 19 (m' := 1048575) rfl (by kernel_rfl) rfl (by kernel_rfl) (ef_store1 [] _ rfl rfl (by first | rfl | assumption) rfl rfl rfl ?_)
      refine ⟨(by first | exact Sb.refl | exact Sb.nil | (repeat (first | exact Sb.nil | exact Sb.refl | exact Sb.app0 | apply Sb.keep | apply Sb.keepApp | apply Sb.cons | apply Sb.app))), ?_⟩
      refine xm_done (by kernel_rfl) ?_
      refine xq_seq ?_
      refine xc_seq ?_
      refine xc_region ?_
      refine xo_rd (rd_move rfl) rfl ?_
      refine xo_rd (rd_assign rfl) rfl ?_
      refine xo_nil ?_
      refine xq_seq ?_
      refine xc_ret ?_
      rotate_left
    all_goals refine xq_ret1 (.inl rfl) Try.results75 rfl ⟨p, c, [], rfl, by omega, by rw [ints_take]; exact hr.take n, slp p c n 1, c - n, fun L0 h => by rw [ints_drop]; exact h.slp c n (by rw [ints_len]; omega), by dsimp only; rw [List.length_drop]; omega, ?_⟩
    all_goals (unfold rdC; dsimp only; rw [List.length_drop]; rfl)
theorem Rd.take_get (r : Rd) (K : Nat) (h : r.Ok K) : By ((r.take 1).1.getD 0 0) := by
  have h1 := (Rd.take_by h 1).1
  have h2 := r.take_len 1
  rw [List.getD_eq_getElem?_getD, List.getElem?_eq_getElem (by omega)]
  exact h1 _ (List.getElem_mem _)
set_option maxHeartbeats 4000000 in
theorem xf_byte {W : World} {L : List Blk} (b : Nat) (p : Option Addr) (c : Nat) (r : Rd) (n : Nat) (hn : (r.take 1).1.getD 0 0 = n) (hr : Rs W L p (ints .u8 r.l)) (hc : r.l.length ≤ c) (hk : r.k + r.l.length ≤ 1000000000) :
    XF Try.prog W 76 #[.pointer (some ⟨b, 0, none⟩)] ((b, .cells (rdC p c r).toArray 116 (0, 0)) :: L) (fun v L' => v = .int .u8 n ∧ RdN W L b p r (r.take 1).2 L') := by
  refine xf_enter (args := [_]) Try.func76 rfl Try.ntmps76 rfl ?_
  focus
    refine xc_seq ?_
    refine xc_region ?_
    refine xo_rd (rd_assign rfl) rfl ?_
    refine xo_nil ?_
    refine xq_seq ?_
    refine xc_seq ?_
    refine xc_region ?_
    refine xo_rd (rd_move rfl) rfl ?_
    refine xo_ef rfl (ef_call rfl (XF.mono (xf_bts b p c r 1 hr hc hk (by decide)) ?_))
    rintro v L' ⟨q, k, l, rfl, hk1, hq, p', c', hs, hc', rfl⟩
  have hl1 := r.take_len 1
  obtain ⟨b1, o1, rfl, hc1⟩ := hq.int (i := 0) (by omega)
  have hc2 : ∀ z, Cl W (z :: (l ++ L)) b1 (o1 + Int.toNat 0 * 1) (.int .u8 n) := fun z => by
    have h1 : (r.take 1).1[0]'(by omega) = n := by rw [← hn, List.getD_eq_getElem?_getD, List.getElem?_eq_getElem (by omega)]; rfl
    rw [h1] at hc1
    exact hc1.mono fun y hy => List.mem_cons_of_mem _ hy
  focus
    refine xo_rd (rd_indexAddr rfl rfl (by omega) (by omega)) rfl ?_
    refine xo_rd (rd_load1 rfl (hc2 _)) rfl ?_
    refine xo_rd (rd_assign rfl) rfl ?_
    refine xo_nil ?_
    refine xq_seq ?_
    refine xc_ret ?_
  exact xq_sub (.cons_cons _ (List.sublist_append_right l L)) (xq_ret1 (.inl rfl) Try.results76 rfl ⟨rfl, p', c', hs, hc', rfl⟩)
set_option maxHeartbeats 4000000 in
theorem xf_rlong {W : World} {L : List Blk} (b : Nat) (p : Option Addr) (c : Nat) (r : Rd) (K : Nat) (ho : r.Ok K) (hK : K ≤ 1000000000) (hr : Rs W L p (ints .u8 r.l)) (hc : r.l.length ≤ c) :
    XF Try.prog W 63 #[.pointer (some ⟨b, 0, none⟩)] ((b, .cells (rdC p c r).toArray 116 (0, 0)) :: L) (fun v L' => v = .int .u32 (vl (r.take 4).1) ∧ RdN W L b p r (r.take 4).2 L') := by
  refine xf_enter (args := [_]) Try.func63 rfl Try.ntmps63 rfl ?_
  have hsz := ho.sz
  focus
    refine xc_seq ?_
    refine xc_region ?_
    refine xo_rd (rd_assign rfl) rfl ?_
    refine xo_nil ?_
    refine xq_seq ?_
    refine xc_seq ?_
    refine xc_seq ?_
    refine xc_region ?_
    refine xo_rd (rd_move rfl) rfl ?_
    refine xo_ef rfl (ef_call rfl (XF.mono (xf_bts b p c r 4 hr hc (by omega) (by decide)) ?_))
    rintro v L' ⟨q, k, l, rfl, hk1, hq, p', c', hs, hc', rfl⟩
    refine xo_rd (rd_len rfl) rfl ?_
    refine xo_rd (rd_move rfl) rfl ?_
    refine xo_nil ?_
    refine xq_seq ?_
    refine xc_block ?_
  have hl4 := r.take_len 4
  have hby := (Rd.take_by ho 4).1
  generalize hys : (r.take 4).1 = ys at *
  refine xc_loopI (ι := Nat × Int) (fun s => s.1 ≤ 4 ∧ s.2 = vl (ys.take s.1)) (fun s => 4 - s.1) (fun _ => (b, .cells (rdC p' c' (r.take 4).2).toArray 116 (0, 0)) :: (l ++ L)) (fun s => [(6, .slice q 4 k), (7, .int .i64 4), (2, .int .u32 s.2), (8, .int .i64 s.1)]) (0, 0) ⟨Nat.zero_le _, rfl⟩ rfl (by repeat (first | exact keep_nil | refine keep_cons rfl ?_)) ?_
  rintro ⟨i, v⟩ ⟨hi, hv⟩
  dsimp only at hi hv ⊢
  have hbd := vl_bd ys hby i (by omega)
  rw [← hv] at hbd
  by_cases hi4 : i < 4
  · obtain ⟨b1, o1, rfl, hc1⟩ := hq.int (i := i) (by omega)
    have hxk := hby ys[i] (List.getElem_mem _)
    unfold By at hxk
    have hp := pow_bd i (by omega)
    have hc2 : ∀ z, Cl W (z :: (l ++ L)) b1 (o1 + (i : Int).toNat * 1) (.int .u8 ys[i]) := fun z => by
      exact hc1.mono fun y hy => List.mem_cons_of_mem _ hy
    focus
      refine xc_seq ?_
      refine xc_region ?_
      refine xo_rd (rd_lss rfl rfl) rfl ?_
      refine xo_nil ?_
      refine xq_seq ?_
      refine xc_seq ?_
      refine xc_dec rfl (fun h1 => ?_) (fun h1 => (by exfalso; omega))
      refine xc_skip ?_
      refine xq_seq ?_
      refine xc_seq ?_
      refine xc_block ?_
      refine xc_seq ?_
      refine xc_region ?_
      refine xo_rd (rd_indexAddr rfl rfl (by omega) (by omega)) rfl ?_
      refine xo_rd (rd_load1 rfl (hc2 _)) rfl ?_
      refine xo_rd (rd_assign rfl) rfl ?_
      refine xo_nil ?_
      refine xq_seq ?_
      refine xc_region ?_
      refine xo_rd (rd_move rfl) rfl ?_
      refine xo_rd (rd_cast (v' := .int .u32 (v * 256)) (rd_shl rfl rfl (by decide) (by decide)) (congrArg (Value.int .u32) (KB.h _ (by show 0 ≤ v * 256; omega) (by show v * 256 ≤ _; omega)))) rfl ?_
      refine xo_rd (rd_move rfl) rfl ?_
      refine xo_rd (rd_convn rfl (by omega) (by omega)) rfl ?_
      refine xo_rd (rd_cast (v' := .int .u32 (v * 256 + ys[i])) (rd_or rfl rfl) (congrArg (Value.int .u32) (or32 v ys[i] (by omega) (by omega) (by omega) (by omega)))) rfl ?_
      refine xo_rd (rd_assign rfl) rfl ?_
      refine xo_nil ?_
      refine xq_block ?_
      refine xq_seq ?_
      refine xc_region ?_
      refine xo_rd (rd_addn rfl rfl (by omega) (by omega)) rfl ?_
      refine xo_rd (rd_move rfl) rfl ?_
      refine xo_nil ?_
    refine xq_roundI (i + 1, _) ⟨by dsimp only; omega, ?_⟩ (by dsimp only; omega) rfl (by repeat (first | exact keep_nil | refine keep_cons rfl ?_))
    dsimp only
    rw [vl_take ys i (by omega), hv]
  · have : i = 4 := by omega
    subst this
    focus
      refine xc_seq ?_
      refine xc_region ?_
      refine xo_rd (rd_lss rfl rfl) rfl ?_
      refine xo_nil ?_
      refine xq_seq ?_
      refine xc_seq ?_
      refine xc_condf rfl ?_
      refine xc_exit ?_
      refine xq_then_exit ?_
      refine xq_then_exit ?_
      refine xq_block_hit ?_
      refine xq_seq ?_
      refine xc_seq ?_
      refine xc_region ?_
      refine xo_rd (rd_move rfl) rfl ?_
      refine xo_rd (rd_assign rfl) rfl ?_
      refine xo_nil ?_
      refine xq_seq ?_
      refine xc_ret ?_
    rw [List.take_of_length_le (by omega)] at hv
    subst hv
    exact xq_sub (.cons_cons _ (List.sublist_append_right l L)) (xq_ret1 (.inl rfl) Try.results63 rfl ⟨rfl, p', c', hs, hc', rfl⟩)
def Rd.text (r : Rd) : List Int × Rd := (r.take 1).2.take ((r.take 1).1.getD 0 0).toNat
set_option maxHeartbeats 4000000 in
theorem xf_rtext {W : World} {L : List Blk} (b : Nat) (p : Option Addr) (c : Nat) (r : Rd) (K : Nat) (ho : r.Ok K) (hK : K ≤ 1000000000) (hr : Rs W L p (ints .u8 r.l)) (hc : r.l.length ≤ c) :
    XF Try.prog W 68 #[.pointer (some ⟨b, 0, none⟩)] ((b, .cells (rdC p c r).toArray 116 (0, 0)) :: L) (fun v L' => v = .string (strOfNums r.text.1) ∧ RdN W L b p r r.text.2 L') := by
  refine xf_enter (args := [_]) Try.func68 rfl Try.ntmps68 rfl ?_
  have hsz := ho.sz
  have hby := r.take_get K ho
  have ho2 := (Rd.take_by ho 1).2
  have hsz2 := ho2.sz
  unfold By at hby
  unfold Rd.text
  obtain ⟨n, hn⟩ : ∃ n : Nat, (r.take 1).1.getD 0 0 = n := ⟨((r.take 1).1.getD 0 0).toNat, by omega⟩
  rw [hn] at hby
  rw [hn, show (n : Int).toNat = n from rfl]
  have hl := (r.take 1).2.take_len n
  focus
    refine xc_seq ?_
    refine xc_region ?_
    refine xo_rd (rd_assign rfl) rfl ?_
    refine xo_nil ?_
    refine xq_seq ?_
    refine xc_seq ?_
    refine xc_region ?_
    refine xo_rd (rd_move rfl) rfl ?_
    refine xo_rd (rd_move rfl) rfl ?_
    refine xo_ef rfl (ef_call rfl (XF.mono (xf_byte b p c r n hn hr hc (by omega)) ?_))
    rintro v L' ⟨rfl, p', c', hs, hc', rfl⟩
    refine xo_rd (rd_convn rfl (by omega) (by omega)) rfl ?_
    refine xo_ef rfl (ef_call rfl (XF.mono (xf_bts b p' c' (r.take 1).2 n (hs _ hr) hc' (by omega) (by omega)) ?_))
    rintro v L' ⟨q, k, l, rfl, hk1, hq, p2, c2, hs2, hc2, rfl⟩
    refine xo_rd (rd_convStr (hq.mono fun y hy => List.mem_cons_of_mem _ hy) rfl hl) rfl ?_
    refine xo_rd (rd_assign rfl) rfl ?_
    refine xo_nil ?_
    refine xq_seq ?_
    refine xc_ret ?_
  exact xq_sub (.cons_cons _ (List.sublist_append_right l L)) (xq_ret1 (.inl rfl) Try.results68 rfl ⟨rfl, p2, c2, fun L0 h => hs2 L0 (hs L0 h), hc2, rfl⟩)
def Rd.fill (r : Rd) : Rd := (r.take ((4 - r.k % 4) % 4)).2
set_option maxHeartbeats 4000000 in
theorem xf_rfill {W : World} {L : List Blk} (b : Nat) (p : Option Addr) (c : Nat) (r : Rd) (K : Nat) (ho : r.Ok K) (hK : K ≤ 1000000000) (hr : Rs W L p (ints .u8 r.l)) (hc : r.l.length ≤ c) :
    XF Try.prog W 69 #[.pointer (some ⟨b, 0, none⟩)] ((b, .cells (rdC p c r).toArray 116 (0, 0)) :: L) (fun v L' => v = .tuple #[] ∧ RdN W L b p r r.fill L') := by
  refine xf_enter (args := [_]) Try.func69 rfl Try.ntmps69 rfl ?_
  have hsz := ho.sz
  have hld : ∀ R, Cl W ((b, .cells (rdC p c r).toArray 116 (0, 0)) :: R) b (0 + 1) (.int .i64 r.k) := fun R => Cl.o0 rfl
  focus
    refine xc_region ?_
    refine xo_rd (rd_move rfl) rfl ?_
    refine xo_rd (rd_move rfl) rfl ?_
    refine xo_rd (rd_nilCheck rfl) rfl ?_
    refine xo_rd (rd_fieldAddr rfl) rfl ?_
    refine xo_rd (rd_load1 rfl (hld _)) rfl ?_
    refine xo_rd (rd_cast (v' := .int .i64 (-(r.k : Int))) (rd_neg rfl) (congrArg (Value.int .i64) (KB.h _ (by omega) (by omega)))) rfl ?_
    refine xo_rd (rd_cast (v' := .int .i64 (((4 - r.k % 4) % 4 : Nat) : Int)) (rd_and rfl rfl) (congrArg (Value.int .i64) (and64_3 r.k (by omega)))) rfl ?_
    refine xo_ef rfl (ef_call rfl (XF.mono (xf_bts b p c r ((4 - r.k % 4) % 4) hr hc (by omega) (by omega)) ?_))
    rintro v L' ⟨q, k, l, rfl, hk1, hq, p2, c2, hs2, hc2, rfl⟩
    refine xo_nil ?_
  exact xq_sub (.cons_cons _ (List.sublist_append_right l L)) (xq_ret0 (.inr rfl) Try.results69 ⟨rfl, p2, c2, hs2, hc2, rfl⟩)
/-- The error of a packet that was read. -/
def toldE (q : Pc) (r : Rd) (kind : Int) (whole : Bool) : Int := if q.kd ≠ kind then 62 else if r.bad = true ∨ (whole = true ∧ 0 < r.l.length) then 63 else 0
set_option maxHeartbeats 4000000 in
theorem xf_told {W : World} {L : List Blk} (b : Nat) (p : Option Addr) (c : Nat) (r : Rd) (x : Pb) (kind : Int) (whole : Bool) :
    XF Try.prog W 65 #[.pointer (some ⟨b, 0, none⟩), .agg x.enc.toArray, .int .u8 kind, .bool whole] ((b, .cells (rdC p c r).toArray 116 (0, 0)) :: L) (fun v L' => v = .int .i64 (toldE x.q r kind whole) ∧ L' = (b, .cells (rdC p c r).toArray 116 (0, 0)) :: L) := by
  refine xf_enter (args := [_, _, _, _]) Try.func65 rfl Try.ntmps65 rfl ?_
  obtain ⟨⟨ct, kd, bd, pd⟩, xp, xc, xl⟩ := x
  obtain ⟨rl, rk, bad⟩ := r
  unfold rdC Pb.enc Pc.enc toldE
  dsimp only
  by_cases hkd : kd = kind
  · rw [if_neg (by simpa using hkd)]
    cases bad with
    | true =>
      rw [if_pos (.inl rfl)]
      focus
        refine xc_seq ?_
        refine xc_region ?_
        refine xo_ef rfl (ef_box rfl fun r5 => ?_)
        refine xo_rd (rd_assign rfl) rfl ?_
        refine xo_nil ?_
        refine xq_seq ?_
        refine xc_seq ?_
        refine xc_block ?_
        refine xc_seq ?_
        refine xc_region ?_
        refine xo_rd (rd_fieldAddr rfl) rfl ?_
        refine xo_rd (rd_load1 rfl (Cl.o0 rfl)) rfl ?_
        refine xo_rd (rd_move rfl) rfl ?_
        refine xo_rd (rd_neq rfl rfl) rfl ?_
        refine xo_rd (rd_assign rfl) rfl ?_
        refine xo_nil ?_
        refine xq_seq ?_
        refine xc_ndec rfl (fun h1 => (by exfalso; omega)) (fun h1 => ?_)
        refine xc_seq ?_
        refine xc_seq ?_
        refine xc_region ?_
        refine xo_rd (rd_move rfl) rfl ?_
        refine xo_rd (rd_nilCheck rfl) rfl ?_
        refine xo_rd (rd_fieldAddr rfl) rfl ?_
        refine xo_rd (rd_load1 rfl (Cl.o1 rfl)) rfl ?_
        refine xo_rd (rd_assign rfl) rfl ?_
        refine xo_nil ?_
        refine xq_seq ?_
        refine xc_condt rfl ?_
        refine xc_skip ?_
        refine xq_seq ?_
        refine xc_condt rfl ?_
        refine xc_seq ?_
        refine xc_region ?_
        refine xo_rd (rd_assign rfl) rfl ?_
        refine xo_nil ?_
        refine xq_seq ?_
        refine xc_ret ?_
        refine xq_block_ret ?_
        refine xq_then_ret ?_
      exact xq_tail (xq_ret1 (.inl rfl) Try.results65 rfl ⟨rfl, rfl⟩)
    | false =>
      cases whole with
      | false =>
        rw [if_neg (by simp)]
        focus
          refine xc_seq ?_
          refine xc_region ?_
          refine xo_ef rfl (ef_box rfl fun r5 => ?_)
          refine xo_rd (rd_assign rfl) rfl ?_
          refine xo_nil ?_
          refine xq_seq ?_
          refine xc_seq ?_
          refine xc_block ?_
          refine xc_seq ?_
          refine xc_region ?_
          refine xo_rd (rd_fieldAddr rfl) rfl ?_
          refine xo_rd (rd_load1 rfl (Cl.o0 rfl)) rfl ?_
          refine xo_rd (rd_move rfl) rfl ?_
          refine xo_rd (rd_neq rfl rfl) rfl ?_
          refine xo_rd (rd_assign rfl) rfl ?_
          refine xo_nil ?_
          refine xq_seq ?_
          refine xc_ndec rfl (fun h1 => (by exfalso; omega)) (fun h1 => ?_)
          refine xc_seq ?_
          refine xc_seq ?_
          refine xc_region ?_
          refine xo_rd (rd_move rfl) rfl ?_
          refine xo_rd (rd_nilCheck rfl) rfl ?_
          refine xo_rd (rd_fieldAddr rfl) rfl ?_
          refine xo_rd (rd_load1 rfl (Cl.o1 rfl)) rfl ?_
          refine xo_rd (rd_assign rfl) rfl ?_
          refine xo_nil ?_
          refine xq_seq ?_
          refine xc_condf rfl ?_
          refine xc_region ?_
          refine xo_rd (rd_move rfl) rfl ?_
          refine xo_rd (rd_move rfl) rfl ?_
          refine xo_gskip rfl rfl rfl rfl ?_
          refine xo_gskip rfl rfl rfl rfl ?_
          refine xo_gskip rfl rfl rfl rfl ?_
          refine xo_gskip rfl rfl rfl rfl ?_
          refine xo_gskip rfl rfl rfl rfl ?_
          refine xo_gskip rfl rfl rfl rfl ?_
          refine xo_rd (rd_pickf rfl rfl) rfl ?_
          refine xo_rd (rd_assign rfl) rfl ?_
          refine xo_nil ?_
          refine xq_seq ?_
          refine xc_condf rfl ?_
          refine xc_skip ?_
          refine xq_block ?_
          refine xq_seq ?_
          refine xc_seq ?_
          refine xc_region ?_
          refine xo_rd (rd_assign rfl) rfl ?_
          refine xo_nil ?_
          refine xq_seq ?_
          refine xc_ret ?_
        exact xq_tail (xq_ret1 (.inl rfl) Try.results65 rfl ⟨rfl, rfl⟩)
      | true =>
        by_cases h0 : 0 < rl.length
        · rw [if_pos (.inr ⟨rfl, h0⟩)]
          focus
            refine xc_seq ?_
            refine xc_region ?_
            refine xo_ef rfl (ef_box rfl fun r5 => ?_)
            refine xo_rd (rd_assign rfl) rfl ?_
            refine xo_nil ?_
            refine xq_seq ?_
            refine xc_seq ?_
            refine xc_block ?_
            refine xc_seq ?_
            refine xc_region ?_
            refine xo_rd (rd_fieldAddr rfl) rfl ?_
            refine xo_rd (rd_load1 rfl (Cl.o0 rfl)) rfl ?_
            refine xo_rd (rd_move rfl) rfl ?_
            refine xo_rd (rd_neq rfl rfl) rfl ?_
            refine xo_rd (rd_assign rfl) rfl ?_
            refine xo_nil ?_
            refine xq_seq ?_
            refine xc_ndec rfl (fun h1 => (by exfalso; omega)) (fun h1 => ?_)
            refine xc_seq ?_
            refine xc_seq ?_
            refine xc_region ?_
            refine xo_rd (rd_move rfl) rfl ?_
            refine xo_rd (rd_nilCheck rfl) rfl ?_
            refine xo_rd (rd_fieldAddr rfl) rfl ?_
            refine xo_rd (rd_load1 rfl (Cl.o1 rfl)) rfl ?_
            refine xo_rd (rd_assign rfl) rfl ?_
            refine xo_nil ?_
            refine xq_seq ?_
            refine xc_condf rfl ?_
            refine xc_region ?_
            refine xo_rd (rd_move rfl) rfl ?_
            refine xo_rd (rd_move rfl) rfl ?_
            refine xo_grd rfl rfl (rd_move rfl) rfl ?_
            refine xo_grd rfl rfl (rd_nilCheck rfl) rfl ?_
            refine xo_grd rfl rfl (rd_fieldAddr rfl) rfl ?_
            refine xo_grd rfl rfl (rd_load1 rfl (Cl.o1 rfl)) rfl ?_
            refine xo_grd rfl rfl (rd_len rfl) rfl ?_
            refine xo_grd rfl rfl (rd_gtr rfl rfl) rfl ?_
            refine xo_rd (rd_pickt rfl rfl) rfl ?_
            refine xo_rd (rd_assign rfl) rfl ?_
            refine xo_nil ?_
            refine xq_seq ?_
            refine xc_dec rfl (fun h2 => ?_) (fun h2 => (by exfalso; omega))
            refine xc_seq ?_
            refine xc_region ?_
            refine xo_rd (rd_assign rfl) rfl ?_
            refine xo_nil ?_
            refine xq_seq ?_
            refine xc_ret ?_
            refine xq_block_ret ?_
            refine xq_then_ret ?_
          exact xq_tail (xq_ret1 (.inl rfl) Try.results65 rfl ⟨rfl, rfl⟩)
        · rw [if_neg (by simpa using h0)]
          focus
            refine xc_seq ?_
            refine xc_region ?_
            refine xo_ef rfl (ef_box rfl fun r5 => ?_)
            refine xo_rd (rd_assign rfl) rfl ?_
            refine xo_nil ?_
            refine xq_seq ?_
            refine xc_seq ?_
            refine xc_block ?_
            refine xc_seq ?_
            refine xc_region ?_
            refine xo_rd (rd_fieldAddr rfl) rfl ?_
            refine xo_rd (rd_load1 rfl (Cl.o0 rfl)) rfl ?_
            refine xo_rd (rd_move rfl) rfl ?_
            refine xo_rd (rd_neq rfl rfl) rfl ?_
            refine xo_rd (rd_assign rfl) rfl ?_
            refine xo_nil ?_
            refine xq_seq ?_
            refine xc_ndec rfl (fun h1 => (by exfalso; omega)) (fun h1 => ?_)
            refine xc_seq ?_
            refine xc_seq ?_
            refine xc_region ?_
            refine xo_rd (rd_move rfl) rfl ?_
            refine xo_rd (rd_nilCheck rfl) rfl ?_
            refine xo_rd (rd_fieldAddr rfl) rfl ?_
            refine xo_rd (rd_load1 rfl (Cl.o1 rfl)) rfl ?_
            refine xo_rd (rd_assign rfl) rfl ?_
            refine xo_nil ?_
            refine xq_seq ?_
            refine xc_condf rfl ?_
            refine xc_region ?_
            refine xo_rd (rd_move rfl) rfl ?_
            refine xo_rd (rd_move rfl) rfl ?_
            refine xo_grd rfl rfl (rd_move rfl) rfl ?_
            refine xo_grd rfl rfl (rd_nilCheck rfl) rfl ?_
            refine xo_grd rfl rfl (rd_fieldAddr rfl) rfl ?_
            refine xo_grd rfl rfl (rd_load1 rfl (Cl.o1 rfl)) rfl ?_
            refine xo_grd rfl rfl (rd_len rfl) rfl ?_
            refine xo_grd rfl rfl (rd_gtr rfl rfl) rfl ?_
            refine xo_rd (rd_pickt rfl rfl) rfl ?_
            refine xo_rd (rd_assign rfl) rfl ?_
            refine xo_nil ?_
            refine xq_seq ?_
            refine xc_dec rfl (fun h2 => (by exfalso; omega)) (fun h2 => ?_)
            refine xc_skip ?_
            refine xq_block ?_
            refine xq_seq ?_
            refine xc_seq ?_
            refine xc_region ?_
            refine xo_rd (rd_assign rfl) rfl ?_
            refine xo_nil ?_
            refine xq_seq ?_
            refine xc_ret ?_
          exact xq_tail (xq_ret1 (.inl rfl) Try.results65 rfl ⟨rfl, rfl⟩)
  · rw [if_pos hkd]
    focus
      refine xc_seq ?_
      refine xc_region ?_
      refine xo_ef rfl (ef_box rfl fun r5 => ?_)
      refine xo_rd (rd_assign rfl) rfl ?_
      refine xo_nil ?_
      refine xq_seq ?_
      refine xc_seq ?_
      refine xc_block ?_
      refine xc_seq ?_
      refine xc_region ?_
      refine xo_rd (rd_fieldAddr rfl) rfl ?_
      refine xo_rd (rd_load1 rfl (Cl.o0 rfl)) rfl ?_
      refine xo_rd (rd_move rfl) rfl ?_
      refine xo_rd (rd_neq rfl rfl) rfl ?_
      refine xo_rd (rd_assign rfl) rfl ?_
      refine xo_nil ?_
      refine xq_seq ?_
      refine xc_ndec rfl (fun h1 => ?_) (fun h1 => (by exfalso; omega))
      refine xc_seq ?_
      refine xc_region ?_
      refine xo_rd (rd_assign rfl) rfl ?_
      refine xo_nil ?_
      refine xq_seq ?_
      refine xc_ret ?_
      refine xq_block_ret ?_
      refine xq_then_ret ?_
    exact xq_tail (xq_ret1 (.inl rfl) Try.results65 rfl ⟨rfl, rfl⟩)
end Go.Proofs.Ytohlaabclifbfaa.X
