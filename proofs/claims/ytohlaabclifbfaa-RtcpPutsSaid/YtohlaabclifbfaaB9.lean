/-
  RtcpJoins: a walk of my own.
-/
import Derived.Test.YtohlaabclifbfaaB8
namespace Go.Proofs.Ytohlaabclifbfaa.X
open Go Go.RowKit
set_option linter.unusedVariables false
set_option linter.unusedSimpArgs false
theorem xf_same2 {W : World} {L : List Blk} (x y : Pb) (r : Bool) (hr : decide (x.q = y.q) = r) (h1 : Rs W L x.p (ints .u8 x.q.bd)) (h2 : Rs W L y.p (ints .u8 y.q.bd)) (ha : x.q.Rg) (hb : y.q.Rg) (b1 : x.q.bd.length ≤ 1000000000) :
    XF Try.prog W 21 #[.agg x.enc.toArray, .agg y.enc.toArray] L (fun v L' => v = .bool r ∧ L' = L) := xf_same x.q y.q r hr x.p y.p x.c y.c h1 h2 ha hb b1
theorem getq {xs ys : List Pb} (h : ys.map Pb.q = xs.map Pb.q) (i : Nat) (hi : i < xs.length) (hj : i < ys.length) : ys[i].q = xs[i].q := by
  have := congrArg (·[i]?) h
  simp only [List.getElem?_map, List.getElem?_eq_getElem hi, List.getElem?_eq_getElem hj, Option.map_some, Option.some.injEq] at this
  exact this
set_option maxHeartbeats 8000000 in
theorem xf_RtcpJoins {W : World} (p : Option Addr) (n c : Nat) (xs : List Pb) (hx : xs.length = n) (hr : Rs W [] p (xs.flatMap Pb.enc)) (hbd : ∀ x, x ∈ xs → Rs W [] x.p (ints .u8 x.q.bd)) (hrg : ∀ x, x ∈ xs → x.q.Rg) (hle : ∀ x, x ∈ xs → x.q.bd.length ≤ 9223372036854775807) (hn : n ≤ 9223372036854775807) :
    XF Try.prog W 5 #[.slice p n c] [] (fun v L' => v = .bool true) := by
  refine xf_enter (args := [_]) Try.func5 rfl Try.ntmps5 rfl ?_
  obtain ⟨fb, hfb⟩ : ∃ b : Bool, decide ((∀ x, x ∈ xs → x.q.bd.length ≤ 800) ∧ n ≤ 10) = b := ⟨_, rfl⟩
  focus
    refine xc_seq ?_
    refine xc_region ?_
    refine xo_rd (rd_assign rfl) rfl ?_
    refine xo_nil ?_
    refine xq_seq ?_
    refine xc_seq ?_
    refine xc_seq ?_
    refine xc_region ?_
    refine xo_rd (rd_move rfl) rfl ?_
    refine xo_ef rfl (ef_call rfl (XF.mono (xf_few p n c xs fb hfb hx hr hn hle) ?_))
    rintro v L' ⟨rfl, rfl⟩
    refine xo_rd (rd_not rfl) rfl ?_
    refine xo_nil ?_
    refine xq_seq ?_
    refine xc_cond rfl (fun hh1 => ?_) (fun hh1 => ?_)
    refine xc_seq ?_
    refine xc_region ?_
    refine xo_ef rfl (ef_call rfl (XF.mono (xf_any (fun W => xf_works)) ?_))
    rintro v L' ⟨rfl, rfl⟩
    refine xo_rd (rd_assign rfl) rfl ?_
    refine xo_nil ?_
    refine xq_seq ?_
    refine xc_ret ?_
    refine xq_then_ret ?_
    exact xq_ret1 (.inl rfl) Try.results5 rfl (rfl)
    refine xc_skip ?_
    refine xq_seq ?_
  have e1 : fb = true := by cases fb <;> simp_all
  subst e1
  obtain ⟨hf8, hf10⟩ := of_decide_eq_true hfb
  have hA : ∀ L, PbR W L p xs := fun L => (⟨hr, hbd, hrg, fun x hx => by have := hf8 x hx; omega⟩ : PbR W [] p xs).nilL
  obtain ⟨⟨out, e⟩, hz⟩ : ∃ z, joinL (xs.map Pb.q) = z := ⟨_, rfl⟩
  focus
    refine xc_seq ?_
    refine xc_region ?_
    refine xo_rd (rd_move rfl) rfl ?_
    refine xo_ef rfl (ef_call rfl (XF.mono (xf_rtcps p n c xs hx (hA _) (by omega)) ?_))
    rintro v L' ⟨ys, sy, ky, ly, rfl, hyq, hyo, hys, rfl⟩
    refine xo_rd (rd_assign rfl) rfl ?_
    refine xo_nil ?_
    refine xq_seq ?_
  have hyn : ys.length = n := by have := congrArg List.length hyq; simp at this; omega
  have hyr : ∀ y, y ∈ ys → y.q.Rg := fun y hy => by
    have hm : y.q ∈ xs.map Pb.q := by rw [← hyq]; exact List.mem_map_of_mem hy
    obtain ⟨x, hx, he⟩ := List.mem_map.1 hm
    rw [← he]; exact hrg x hx
  have hyf : ∀ y, y ∈ ys → y.q.bd.length ≤ 1000000 := fun y hy => by
    have hm : y.q ∈ xs.map Pb.q := by rw [← hyq]; exact List.mem_map_of_mem hy
    obtain ⟨x, hx, he⟩ := List.mem_map.1 hm
    rw [← he]; have := hf8 x hx; omega
  have hyP : PbR W (ly ++ (bls ys ++ [])) sy ys := PbR.own hys hyo hyr hyf
  have hol : out.length ≤ 10000000 := by
    have ho : (joinL (xs.map Pb.q)).1 = out := by rw [hz]
    rw [← ho]
    unfold joinL
    split
    · exact Nat.zero_le _
    · split
      · split
        · rename_i hok _
          rw [List.flatMap_map]
          have hall := okJ_iff (xs.map Pb.q) |>.1 hok
          have : ∀ l : List Pb, (∀ x, x ∈ l → (putP x.q).length ≤ 262144) → (l.flatMap (fun x => putP x.q)).length ≤ l.length * 262144 := fun l => by
            induction l with
            | nil => intro _; exact Nat.le_refl _
            | cons a r ih => intro h; rw [List.flatMap_cons, List.length_append, List.length_cons]; have := ih fun x hx => h x (List.mem_cons_of_mem _ hx); have := h a (List.mem_cons_self ..); omega
          have := this xs fun x hx => by
            obtain ⟨j, hj, rfl⟩ := List.getElem_of_mem hx
            have := (hall j (by simpa using hj)).1
            simp only [List.getElem_map] at this
            exact putP_le _ (hrg _ hx) this
          show (xs.flatMap (fun x => putP x.q)).length ≤ 10000000
          omega
        · exact Nat.zero_le _
      · exact Nat.zero_le _
  focus
    refine xc_seq ?_
    refine xc_region ?_
    refine xo_rd (rd_move rfl) rfl ?_
    refine xo_ef rfl (ef_call rfl (XF.mono (xf_rjoin2 sy ys.length ky ys out e (by rw [hyq]; exact hz) rfl hyP (by omega)) ?_))
    rintro v L' ⟨so, ko, lo, rfl, hOo, rfl⟩
    refine xo_rd (rd_move rfl) rfl ?_
    refine xo_rd (rd_extract rfl rfl) rfl ?_
    refine xo_rd (rd_extract rfl rfl) rfl ?_
    refine xo_rd (rd_assign rfl) rfl ?_
    refine xo_rd (rd_assign rfl) rfl ?_
    refine xo_nil ?_
    refine xq_seq ?_
  generalize hL0 : lo ++ (ly ++ (bls ys ++ [])) = L0 at *
  have hloS : ∀ z, z ∈ lo → z ∈ L0 := fun z hz => by rw [← hL0]; exact List.mem_append_left _ hz
  have hyP0 : PbR W L0 sy ys := hyP.mono fun z hz => by rw [← hL0]; exact List.mem_append_right _ hz
  refine xc_join (ι := Unit) (fun _ => True) (fun _ => L0) (fun _ => [(0, .slice p n c), (3, .slice sy ys.length ky)]) ?_ ?_
  · focus
      refine xc_seq ?_
      refine xc_region ?_
      refine xo_rd (rd_assign rfl) rfl ?_
      refine xo_nil ?_
      refine xq_seq ?_
      refine xc_block ?_
    refine xc_loopK (ι := Nat) (fun t => t ≤ 2) (fun t => 2 - t) (fun t => [(0, .slice p n c), (3, .slice sy ys.length ky), (4, .slice so out.length ko), (5, .int .i64 e), (6, .int .i64 t)]) 0 (by decide) (by repeat (first | exact keep_nil | refine keep_cons rfl ?_)) ?_
    intro t ht
    focus
      refine xc_seq ?_
      refine xc_seq ?_
      refine xc_region ?_
      refine xo_rd (rd_move rfl) rfl ?_
      refine xo_rd (rd_lss rfl rfl) rfl ?_
      refine xo_nil ?_
      refine xq_seq ?_
      refine xc_dec rfl (fun hi1 => ?_) (fun hi1 => ?_)
      refine xc_skip ?_
      refine xq_seq ?_
      refine xc_seq ?_
      refine xc_block ?_
      refine xc_seq ?_
      refine xc_region ?_
      refine xo_rd (rd_move rfl) rfl ?_
      refine xo_ef rfl (ef_call rfl (XF.mono (xf_join2 p n c xs out e hz hx (hA _) (by omega)) ?_))
      rintro v L' ⟨s, k, l, rfl, hO, rfl⟩
      refine xo_rd (rd_move rfl) rfl ?_
      refine xo_rd (rd_extract rfl rfl) rfl ?_
      refine xo_rd (rd_extract rfl rfl) rfl ?_
      refine xo_rd (rd_assign rfl) rfl ?_
      refine xo_rd (rd_assign rfl) rfl ?_
      refine xo_nil ?_
      refine xq_seq ?_
      refine xc_seq ?_
      refine xc_seq ?_
      refine xc_region ?_
      refine xo_rd (rd_move rfl) rfl ?_
      refine xo_rd (rd_move rfl) rfl ?_
      refine xo_rd (rd_neq rfl rfl) rfl ?_
      refine xo_rd (rd_move rfl) rfl ?_
      refine xo_ndec 33 rfl (fun h => absurd rfl h) (fun _ => ?_)
      refine xo_grd rfl rfl (rd_move rfl) rfl ?_
      refine xo_grd rfl rfl (rd_move rfl) rfl ?_
      refine xo_gef rfl rfl rfl (ef_call rfl (XF.mono (xf_samebytesT s so out.length out.length k ko out out rfl rfl rfl (hO.rs (by intro z hz; simp [hz])) (hOo.rs (fun z hz => List.mem_append_right _ (hloS z hz))) (by omega)) ?_))
      rintro v L' ⟨rfl, rfl⟩
      refine xo_grd rfl rfl (rd_not rfl) rfl ?_
      refine xo_rd (rd_pickf rfl rfl) rfl ?_
      refine xo_nil ?_
      refine xq_seq ?_
      refine xc_condf rfl ?_
      refine xc_skip ?_
      refine xq_seq ?_
      refine xc_region ?_
      refine xo_rd (rd_move rfl) rfl ?_
      refine xo_ef rfl (ef_call rfl (XF.mono (xf_spoil (.slice s out.length k) out.length (ints .u8 out) l hO (by omega)) ?_))
      rintro v L' ⟨rfl, xs', l', _, rfl⟩
      refine xo_nil ?_
      refine xq_block ?_
      refine xq_seq ?_
      refine xc_region ?_
      refine xo_rd (rd_move rfl) rfl ?_
      refine xo_rd (rd_addn rfl rfl (by omega) (by omega)) rfl ?_
      refine xo_rd (rd_assign rfl) rfl ?_
      refine xo_nil ?_
      rotate_left
      refine xc_exit ?_
      refine xq_then_exit ?_
      refine xq_then_exit ?_
      refine xq_block_hit ?_
      rotate_left
    · exact xq_roundK rfl (t + 1) (by omega) (by omega) (List.sublist_append_right _ _) (by repeat (first | exact keep_nil | refine keep_cons rfl ?_))
    · exact xq_joined () trivial rfl (by repeat (first | exact keep_nil | refine keep_cons rfl ?_))
  · rintro _ _
    focus
      refine xc_seq ?_
      refine xc_seq ?_
      refine xc_region ?_
      refine xo_rd (rd_assign rfl) rfl ?_
      refine xo_nil ?_
      refine xq_seq ?_
      refine xc_block ?_
    refine xc_loopK (ι := Nat) (fun i => i ≤ n) (fun i => n - i) (fun i => [(0, .slice p n c), (3, .slice sy ys.length ky), (9, .int .i64 i)]) 0 (Nat.zero_le _) (by repeat (first | exact keep_nil | refine keep_cons rfl ?_)) ?_
    intro i hi
    by_cases hin : i < n
    · obtain ⟨b, o, hp, hc1⟩ := hr.rows Pb.len (by decide) (by omega)
      obtain ⟨b', o', hp', hc2⟩ := hyP0.rs.rows Pb.len (by decide) (by omega)
      subst hp hp'
      have hci := hc1 i (by omega)
      have hc0 := hc1 0 (by omega)
      have hdi := hc2 i (by omega)
      have hd0 := hc2 0 (by omega)
      have q1 := getq hyq i (by omega) (by omega)
      have q0 := getq hyq 0 (by omega) (by omega)
      have kx := (hA L0).bd xs[i] (List.getElem_mem _)
      have kx0 := (hA L0).bd xs[0] (List.getElem_mem _)
      have ky1 := hyP0.bd ys[i] (List.getElem_mem _)
      have ky0 := hyP0.bd ys[0] (List.getElem_mem _)
      have gx := hrg xs[i] (List.getElem_mem _)
      have gx0 := hrg xs[0] (List.getElem_mem _)
      have fx := hf8 xs[i] (List.getElem_mem _)
      have fx0 := hf8 xs[0] (List.getElem_mem _)
      generalize xs[i] = x at *
      generalize xs[0] = x0 at *
      generalize ys[i] = y at *
      generalize ys[0] = y0 at *
      obtain ⟨rb, hrb⟩ : ∃ r, decide x.q.Right = r := ⟨_, rfl⟩
      obtain ⟨sb, hsb⟩ : ∃ r, decide (x.q = x0.q) = r := ⟨_, rfl⟩
      have hcI : ∀ (j : Nat) (u : Value), x.enc[j]? = some u → Cl W L0 b (o + (i : Int).toNat * 4 + j) u := fun j u hj => (hci j u hj).nil
      have hcZ : ∀ (j : Nat) (u : Value), x0.enc[j]? = some u → Cl W L0 b (o + Int.toNat 0 * 4 + j) u := fun j u hj => (hc0 j u hj).nil
      have hdI : ∀ (j : Nat) (u : Value), y.enc[j]? = some u → Cl W L0 b' (o' + (i : Int).toNat * 4 + j) u := fun j u hj => hdi j u hj
      have hdZ : ∀ (j : Nat) (u : Value), y0.enc[j]? = some u → Cl W L0 b' (o' + Int.toNat 0 * 4 + j) u := fun j u hj => hd0 j u hj
      focus
        refine xc_seq ?_
        refine xc_seq ?_
        refine xc_region ?_
        refine xo_rd (rd_move rfl) rfl ?_
        refine xo_rd (rd_move rfl) rfl ?_
        refine xo_rd (rd_len rfl) rfl ?_
        refine xo_rd (rd_lss rfl rfl) rfl ?_
        refine xo_nil ?_
        refine xq_seq ?_
        refine xc_dec rfl (fun hq1 => ?_) (fun hq1 => (by exfalso; omega))
        refine xc_skip ?_
        refine xq_seq ?_
        refine xc_seq ?_
        refine xc_block ?_
        refine xc_seq ?_
        refine xc_drawML [0, 0, 3, 4, 8, 0, 0, 96, 128, 272, 528, 1536, 2048, 2048, 14336, 18432, 2048, 67584, 133120, 296960, 2048, 2048, 3147776, 4196352, 2048, 16779264, 33556480, 76023808, 134744064, 268437504, 671088640, 1073741824, 1073741824, 7516192768, 9663676416, 1073741824, 1073741824, 104152956928, 138512695296, 293131517952, 550829555712, 1100585369600] [0, 0, 3, 4, 8, 0, 0, 96, 128, 272, 528, 1536, 2048, 2048, 14336, 18432, 2048, 67584, 133120, 296960, 2048, 2048, 3147776, 4196352, 2048, 16779264, 33556480, 76023808, 134744064, 268437504, 671088640, 1073741824, 1073741824, 7516192768, 9663676416, 1073741824, 1073741824, 104152956928, 138512695296, 293131517952, 550829555712, 1100585369600] (by kernel_rfl) (by kernel_rfl) (by kernel_rfl) ?_
        refine xm_take 0 (m' := 1) rfl (by kernel_rfl) (by first | exact Sb.refl | exact Sb.nil | (repeat (first | exact Sb.nil | exact Sb.refl | exact Sb.app0 | apply Sb.keep | apply Sb.keepApp | apply Sb.cons | apply Sb.app))) (rd_move rfl) rfl (by kernel_rfl) ?_
        refine xm_take 1 (m' := 3) rfl (by kernel_rfl) (by first | exact Sb.refl | exact Sb.nil | (repeat (first | exact Sb.nil | exact Sb.refl | exact Sb.app0 | apply Sb.keep | apply Sb.keepApp | apply Sb.cons | apply Sb.app))) (rd_move rfl) rfl (by kernel_rfl) ?_
        refine xm_take 2 (m' := 7) rfl (by kernel_rfl) (by first | exact Sb.refl | exact Sb.nil | (repeat (first | exact Sb.nil | exact Sb.refl | exact Sb.app0 | apply Sb.keep | apply Sb.keepApp | apply Sb.cons | apply Sb.app))) (rd_indexAddr rfl rfl (by omega) (by omega)) rfl (by kernel_rfl) ?_
        refine xm_take 3 (m' := 15) rfl (by kernel_rfl) (by first | exact Sb.refl | exact Sb.nil | (repeat (first | exact Sb.nil | exact Sb.refl | exact Sb.app0 | apply Sb.keep | apply Sb.keepApp | apply Sb.cons | apply Sb.app))) (rd_loadA (vs := x.enc) rfl rfl hcI) rfl (by kernel_rfl) ?_
        refine xm_take 5 (m' := 47) rfl (by kernel_rfl) (by first | exact Sb.refl | exact Sb.nil | (repeat (first | exact Sb.nil | exact Sb.refl | exact Sb.app0 | apply Sb.keep | apply Sb.keepApp | apply Sb.cons | apply Sb.app))) (rd_move rfl) rfl (by kernel_rfl) ?_
        refine xm_take 6 (m' := 111) rfl (by kernel_rfl) (by first | exact Sb.refl | exact Sb.nil | (repeat (first | exact Sb.nil | exact Sb.refl | exact Sb.app0 | apply Sb.keep | apply Sb.keepApp | apply Sb.cons | apply Sb.app))) (rd_move rfl) rfl (by kernel_rfl) ?_
        refine xm_take 7 (m' := 239) rfl (by kernel_rfl) (by first | exact Sb.refl | exact Sb.nil | (repeat (first | exact Sb.nil | exact Sb.refl | exact Sb.app0 | apply Sb.keep | apply Sb.keepApp | apply Sb.cons | apply Sb.app))) (rd_indexAddr rfl rfl (by omega) (by omega)) rfl (by kernel_rfl) ?_
        refine xm_take 8 (m' := 495) rfl (by kernel_rfl) (by first | exact Sb.refl | exact Sb.nil | (repeat (first | exact Sb.nil | exact Sb.refl | exact Sb.app0 | apply Sb.keep | apply Sb.keepApp | apply Sb.cons | apply Sb.app))) (rd_loadA (vs := y.enc) rfl rfl hdI) rfl (by kernel_rfl) ?_
        refine xm_one 4 (m' := 511) rfl (by kernel_rfl) rfl (by kernel_rfl) (ef_call rfl (XF.mono (xf_rightP x rb hrb gx (by omega)) ?_))
        rintro v L' ⟨rfl, rfl⟩
        refine ⟨(by first | exact Sb.refl | exact Sb.nil | (repeat (first | exact Sb.nil | exact Sb.refl | exact Sb.app0 | apply Sb.keep | apply Sb.keepApp | apply Sb.cons | apply Sb.app))), ?_⟩
        refine xm_one 9 (m' := 1023) rfl (by kernel_rfl) rfl (by kernel_rfl) (ef_call rfl (XF.mono (xf_rrightP y rb (by rw [q1]; exact hrb) (by rw [q1]; exact gx) (by rw [q1]; omega)) ?_))
        rintro v L' ⟨rfl, rfl⟩
        refine ⟨(by first | exact Sb.refl | exact Sb.nil | (repeat (first | exact Sb.nil | exact Sb.refl | exact Sb.app0 | apply Sb.keep | apply Sb.keepApp | apply Sb.cons | apply Sb.app))), ?_⟩
        refine xm_take 10 (m' := 2047) rfl (by kernel_rfl) (by first | exact Sb.refl | exact Sb.nil | (repeat (first | exact Sb.nil | exact Sb.refl | exact Sb.app0 | apply Sb.keep | apply Sb.keepApp | apply Sb.cons | apply Sb.app))) (rd_cast (v' := .bool false) (rd_neb rfl rfl) (by simp)) rfl (by kernel_rfl) ?_
        refine xm_take 11 (m' := 4095) rfl (by kernel_rfl) (by first | exact Sb.refl | exact Sb.nil | (repeat (first | exact Sb.nil | exact Sb.refl | exact Sb.app0 | apply Sb.keep | apply Sb.keepApp | apply Sb.cons | apply Sb.app))) (rd_move rfl) rfl (by kernel_rfl) ?_
        refine xm_gtake 12 (m' := 8191) rfl (by kernel_rfl) (by first | exact Sb.refl | exact Sb.nil | (repeat (first | exact Sb.nil | exact Sb.refl | exact Sb.app0 | apply Sb.keep | apply Sb.keepApp | apply Sb.cons | apply Sb.app))) rfl rfl (rd_move rfl) rfl (by kernel_rfl) ?_
        refine xm_gtake 13 (m' := 16383) rfl (by kernel_rfl) (by first | exact Sb.refl | exact Sb.nil | (repeat (first | exact Sb.nil | exact Sb.refl | exact Sb.app0 | apply Sb.keep | apply Sb.keepApp | apply Sb.cons | apply Sb.app))) rfl rfl (rd_move rfl) rfl (by kernel_rfl) ?_
        refine xm_gtake 14 (m' := 32767) rfl (by kernel_rfl) (by first | exact Sb.refl | exact Sb.nil | (repeat (first | exact Sb.nil | exact Sb.refl | exact Sb.app0 | apply Sb.keep | apply Sb.keepApp | apply Sb.cons | apply Sb.app))) rfl rfl (rd_indexAddr rfl rfl (by omega) (by omega)) rfl (by kernel_rfl) ?_
        refine xm_gtake 15 (m' := 65535) rfl (by kernel_rfl) (by first | exact Sb.refl | exact Sb.nil | (repeat (first | exact Sb.nil | exact Sb.refl | exact Sb.app0 | apply Sb.keep | apply Sb.keepApp | apply Sb.cons | apply Sb.app))) rfl rfl (rd_loadA (vs := x.enc) rfl rfl hcI) rfl (by kernel_rfl) ?_
        refine xm_gtake 16 (m' := 131071) rfl (by kernel_rfl) (by first | exact Sb.refl | exact Sb.nil | (repeat (first | exact Sb.nil | exact Sb.refl | exact Sb.app0 | apply Sb.keep | apply Sb.keepApp | apply Sb.cons | apply Sb.app))) rfl rfl (rd_move rfl) rfl (by kernel_rfl) ?_
        refine xm_gtake 17 (m' := 262143) rfl (by kernel_rfl) (by first | exact Sb.refl | exact Sb.nil | (repeat (first | exact Sb.nil | exact Sb.refl | exact Sb.app0 | apply Sb.keep | apply Sb.keepApp | apply Sb.cons | apply Sb.app))) rfl rfl (rd_indexAddr rfl rfl (by omega) (by omega)) rfl (by kernel_rfl) ?_
        refine xm_gtake 18 (m' := 524287) rfl (by kernel_rfl) (by first | exact Sb.refl | exact Sb.nil | (repeat (first | exact Sb.nil | exact Sb.refl | exact Sb.app0 | apply Sb.keep | apply Sb.keepApp | apply Sb.cons | apply Sb.app))) rfl rfl (rd_loadA (vs := x0.enc) rfl rfl hcZ) rfl (by kernel_rfl) ?_
        refine xm_gtake 20 (m' := 1572863) rfl (by kernel_rfl) (by first | exact Sb.refl | exact Sb.nil | (repeat (first | exact Sb.nil | exact Sb.refl | exact Sb.app0 | apply Sb.keep | apply Sb.keepApp | apply Sb.cons | apply Sb.app))) rfl rfl (rd_move rfl) rfl (by kernel_rfl) ?_
        refine xm_gtake 21 (m' := 3670015) rfl (by kernel_rfl) (by first | exact Sb.refl | exact Sb.nil | (repeat (first | exact Sb.nil | exact Sb.refl | exact Sb.app0 | apply Sb.keep | apply Sb.keepApp | apply Sb.cons | apply Sb.app))) rfl rfl (rd_move rfl) rfl (by kernel_rfl) ?_
        refine xm_gtake 22 (m' := 7864319) rfl (by kernel_rfl) (by first | exact Sb.refl | exact Sb.nil | (repeat (first | exact Sb.nil | exact Sb.refl | exact Sb.app0 | apply Sb.keep | apply Sb.keepApp | apply Sb.cons | apply Sb.app))) rfl rfl (rd_indexAddr rfl rfl (by omega) (by omega)) rfl (by kernel_rfl) ?_
        refine xm_gtake 23 (m' := 16252927) rfl (by kernel_rfl) (by first | exact Sb.refl | exact Sb.nil | (repeat (first | exact Sb.nil | exact Sb.refl | exact Sb.app0 | apply Sb.keep | apply Sb.keepApp | apply Sb.cons | apply Sb.app))) rfl rfl (rd_loadA (vs := y.enc) rfl rfl hdI) rfl (by kernel_rfl) ?_
        refine xm_gtake 24 (m' := 33030143) rfl (by kernel_rfl) (by first | exact Sb.refl | exact Sb.nil | (repeat (first | exact Sb.nil | exact Sb.refl | exact Sb.app0 | apply Sb.keep | apply Sb.keepApp | apply Sb.cons | apply Sb.app))) rfl rfl (rd_move rfl) rfl (by kernel_rfl) ?_
        refine xm_gtake 25 (m' := 66584575) rfl (by kernel_rfl) (by first | exact Sb.refl | exact Sb.nil | (repeat (first | exact Sb.nil | exact Sb.refl | exact Sb.app0 | apply Sb.keep | apply Sb.keepApp | apply Sb.cons | apply Sb.app))) rfl rfl (rd_indexAddr rfl rfl (by omega) (by omega)) rfl (by kernel_rfl) ?_
        refine xm_gtake 26 (m' := 133693439) rfl (by kernel_rfl) (by first | exact Sb.refl | exact Sb.nil | (repeat (first | exact Sb.nil | exact Sb.refl | exact Sb.app0 | apply Sb.keep | apply Sb.keepApp | apply Sb.cons | apply Sb.app))) rfl rfl (rd_loadA (vs := y0.enc) rfl rfl hdZ) rfl (by kernel_rfl) ?_
        refine xm_gone 19 (m' := 134217727) rfl (by kernel_rfl) rfl rfl rfl (by kernel_rfl) (ef_call rfl (XF.mono (xf_same2 x x0 sb hsb kx kx0 gx gx0 (by omega)) ?_))
        rintro v L' ⟨rfl, rfl⟩
        refine ⟨(by first | exact Sb.refl | exact Sb.nil | (repeat (first | exact Sb.nil | exact Sb.refl | exact Sb.app0 | apply Sb.keep | apply Sb.keepApp | apply Sb.cons | apply Sb.app))), ?_⟩
        refine xm_gone 27 (m' := 268435455) rfl (by kernel_rfl) rfl rfl rfl (by kernel_rfl) (ef_call rfl (XF.mono (xf_rsame2 y y0 sb (by rw [q1, q0]; exact hsb) ky1 ky0 (by rw [q1]; exact gx) (by rw [q0]; exact gx0) (by rw [q1]; omega)) ?_))
        rintro v L' ⟨rfl, rfl⟩
        refine ⟨(by first | exact Sb.refl | exact Sb.nil | (repeat (first | exact Sb.nil | exact Sb.refl | exact Sb.app0 | apply Sb.keep | apply Sb.keepApp | apply Sb.cons | apply Sb.app))), ?_⟩
        refine xm_gtake 28 (m' := 536870911) rfl (by kernel_rfl) (by first | exact Sb.refl | exact Sb.nil | (repeat (first | exact Sb.nil | exact Sb.refl | exact Sb.app0 | apply Sb.keep | apply Sb.keepApp | apply Sb.cons | apply Sb.app))) rfl rfl (rd_cast (v' := .bool false) (rd_neb rfl rfl) (by simp)) rfl (by kernel_rfl) ?_
        refine xm_take 29 (m' := 1073741823) rfl (by kernel_rfl) (by first | exact Sb.refl | exact Sb.nil | (repeat (first | exact Sb.nil | exact Sb.refl | exact Sb.app0 | apply Sb.keep | apply Sb.keepApp | apply Sb.cons | apply Sb.app))) (rd_pickf rfl rfl) rfl (by kernel_rfl) ?_
        refine xm_take 30 (m' := 2147483647) rfl (by kernel_rfl) (by first | exact Sb.refl | exact Sb.nil | (repeat (first | exact Sb.nil | exact Sb.refl | exact Sb.app0 | apply Sb.keep | apply Sb.keepApp | apply Sb.cons | apply Sb.app))) (rd_move rfl) rfl (by kernel_rfl) ?_
        refine xm_gtake 31 (m' := 4294967295) rfl (by kernel_rfl) (by first | exact Sb.refl | exact Sb.nil | (repeat (first | exact Sb.nil | exact Sb.refl | exact Sb.app0 | apply Sb.keep | apply Sb.keepApp | apply Sb.cons | apply Sb.app))) rfl rfl (rd_move rfl) rfl (by kernel_rfl) ?_
        refine xm_gtake 32 (m' := 8589934591) rfl (by kernel_rfl) (by first | exact Sb.refl | exact Sb.nil | (repeat (first | exact Sb.nil | exact Sb.refl | exact Sb.app0 | apply Sb.keep | apply Sb.keepApp | apply Sb.cons | apply Sb.app))) rfl rfl (rd_move rfl) rfl (by kernel_rfl) ?_
        refine xm_gtake 33 (m' := 17179869183) rfl (by kernel_rfl) (by first | exact Sb.refl | exact Sb.nil | (repeat (first | exact Sb.nil | exact Sb.refl | exact Sb.app0 | apply Sb.keep | apply Sb.keepApp | apply Sb.cons | apply Sb.app))) rfl rfl (rd_indexAddr rfl rfl (by omega) (by omega)) rfl (by kernel_rfl) ?_
        refine xm_gtake 34 (m' := 34359738367) rfl (by kernel_rfl) (by first | exact Sb.refl | exact Sb.nil | (repeat (first | exact Sb.nil | exact Sb.refl | exact Sb.app0 | apply Sb.keep | apply Sb.keepApp | apply Sb.cons | apply Sb.app))) rfl rfl (rd_loadA (vs := x.enc) rfl rfl hcI) rfl (by kernel_rfl) ?_
        refine xm_gtake 35 (m' := 68719476735) rfl (by kernel_rfl) (by first | exact Sb.refl | exact Sb.nil | (repeat (first | exact Sb.nil | exact Sb.refl | exact Sb.app0 | apply Sb.keep | apply Sb.keepApp | apply Sb.cons | apply Sb.app))) rfl rfl (rd_move rfl) rfl (by kernel_rfl) ?_
        refine xm_gtake 36 (m' := 137438953471) rfl (by kernel_rfl) (by first | exact Sb.refl | exact Sb.nil | (repeat (first | exact Sb.nil | exact Sb.refl | exact Sb.app0 | apply Sb.keep | apply Sb.keepApp | apply Sb.cons | apply Sb.app))) rfl rfl (rd_move rfl) rfl (by kernel_rfl) ?_
        refine xm_gtake 37 (m' := 274877906943) rfl (by kernel_rfl) (by first | exact Sb.refl | exact Sb.nil | (repeat (first | exact Sb.nil | exact Sb.refl | exact Sb.app0 | apply Sb.keep | apply Sb.keepApp | apply Sb.cons | apply Sb.app))) rfl rfl (rd_indexAddr rfl rfl (by omega) (by omega)) rfl (by kernel_rfl) ?_
        refine xm_gtake 38 (m' := 549755813887) rfl (by kernel_rfl) (by first | exact Sb.refl | exact Sb.nil | (repeat (first | exact Sb.nil | exact Sb.refl | exact Sb.app0 | apply Sb.keep | apply Sb.keepApp | apply Sb.cons | apply Sb.app))) rfl rfl (rd_loadA (vs := x.enc) rfl rfl hcI) rfl (by kernel_rfl) ?_
        refine xm_gone 39 (m' := 1099511627775) rfl (by kernel_rfl) rfl rfl rfl (by kernel_rfl) (ef_call rfl (XF.mono (xf_same2 x x true (decide_eq_true rfl) kx kx gx gx (by omega)) ?_))
        rintro v L' ⟨rfl, rfl⟩
        refine ⟨(by first | exact Sb.refl | exact Sb.nil | (repeat (first | exact Sb.nil | exact Sb.refl | exact Sb.app0 | apply Sb.keep | apply Sb.keepApp | apply Sb.cons | apply Sb.app))), ?_⟩
        refine xm_gtake 40 (m' := 2199023255551) rfl (by kernel_rfl) (by first | exact Sb.refl | exact Sb.nil | (repeat (first | exact Sb.nil | exact Sb.refl | exact Sb.app0 | apply Sb.keep | apply Sb.keepApp | apply Sb.cons | apply Sb.app))) rfl rfl (rd_not rfl) rfl (by kernel_rfl) ?_
        refine xm_take 41 (m' := 4398046511103) rfl (by kernel_rfl) (by first | exact Sb.refl | exact Sb.nil | (repeat (first | exact Sb.nil | exact Sb.refl | exact Sb.app0 | apply Sb.keep | apply Sb.keepApp | apply Sb.cons | apply Sb.app))) (rd_pickf rfl rfl) rfl (by kernel_rfl) ?_
        refine xm_done (by kernel_rfl) ?_
        refine xq_seq ?_
        refine xc_condf rfl ?_
        refine xc_skip ?_
        refine xq_block ?_
        refine xq_seq ?_
        refine xc_region ?_
        refine xo_rd (rd_move rfl) rfl ?_
        refine xo_rd (rd_addn rfl rfl (by omega) (by omega)) rfl ?_
        refine xo_rd (rd_assign rfl) rfl ?_
        refine xo_nil ?_
      exact xq_roundK rfl (i + 1) (by omega) (by omega) (List.Sublist.refl _) (by repeat (first | exact keep_nil | refine keep_cons rfl ?_))
    · skip
      focus
        refine xc_seq ?_
        refine xc_seq ?_
        refine xc_region ?_
        refine xo_rd (rd_move rfl) rfl ?_
        refine xo_rd (rd_move rfl) rfl ?_
        refine xo_rd (rd_len rfl) rfl ?_
        refine xo_rd (rd_lss rfl rfl) rfl ?_
        refine xo_nil ?_
        refine xq_seq ?_
        refine xc_dec rfl (fun h1 => (by exfalso; omega)) (fun h1 => ?_)
        refine xc_exit ?_
        refine xq_then_exit ?_
        refine xq_then_exit ?_
        refine xq_block_hit ?_
        refine xq_seq ?_
        refine xc_seq ?_
        refine xc_region ?_
        refine xo_rd (rd_move rfl) rfl ?_
        refine xo_rd (rd_move rfl) rfl ?_
        refine xo_ef rfl (ef_call rfl (XF.mono (xf_sameRs p sy n ys.length c ky xs ys true (by rw [hyq]; exact decide_eq_true rfl) hx rfl (hA _) hyP0 (by omega)) ?_))
        rintro v L' ⟨rfl, rfl⟩
        refine xo_rd (rd_move rfl) rfl ?_
        refine xo_gef rfl rfl rfl (ef_call rfl (XF.mono (xf_any (fun W => xf_works)) ?_))
        rintro v L' ⟨rfl, rfl⟩
        refine xo_rd (rd_pickt rfl rfl) rfl ?_
        refine xo_rd (rd_assign rfl) rfl ?_
        refine xo_nil ?_
        refine xq_seq ?_
        refine xc_ret ?_
        exact xq_ret1 (.inl rfl) Try.results5 rfl (rfl)
end Go.Proofs.Ytohlaabclifbfaa.X
