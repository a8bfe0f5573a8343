/-
  Texts of my own, put together: walks and laws for this seat. No condition.
-/
import Derived.Test.YtohlaabclifbfaaM6
import Derived.Test.YtohlaabclifbfaaM1
import Derived.ProofKit
import Derived.OpenShut
import Derived.ShutString
import Derived.ChangeOld
import Derived.Carry
/-
  RtcpJoins: a walk of my own.
-/
namespace Go.Proofs.Ytohlaabclifbfaa.X
open Go Go.RowKit
set_option linter.unusedVariables false
set_option linter.unusedSimpArgs false
theorem xf_same2 {W : World} {L : List Blk} (x y : Pb) (r : Bool) (hr : decide (x.q = y.q) = r) (h1 : Rs W L x.p (ints .u8 x.q.bd)) (h2 : Rs W L y.p (ints .u8 y.q.bd)) (ha : x.q.Rg) (hb : y.q.Rg) (b1 : x.q.bd.length ≤ 1000000000) :
    XF Try.prog W 21 #[.agg x.enc.toArray, .agg y.enc.toArray] L (fun v L' => v = .bool r ∧ L' = L) := xf_same x.q y.q r hr x.p y.p x.c y.c h1 h2 ha hb b1
theorem getq {xs ys : List Pb} (h : ys.map Pb.q = xs.map Pb.q) (i : Nat) (hi : i < xs.length) (hj : i < ys.length) : ys[i].q = xs[i].q := by
  have := congrArg (·[i]?) h
  simp only [List.getElem?_map, List.getElem?_eq_getElem hi, List.getElem?_eq_getElem hj, Option.map_some, Option.some.injEq] at this
  exact this
set_option maxHeartbeats 8000000 in
theorem xf_RtcpJoins {W : World} (p : Option Addr) (n c : Nat) (xs : List Pb) (hx : xs.length = n) (hr : Rs W [] p (xs.flatMap Pb.enc)) (hbd : ∀ x, x ∈ xs → Rs W [] x.p (ints .u8 x.q.bd)) (hrg : ∀ x, x ∈ xs → x.q.Rg) (hle : ∀ x, x ∈ xs → x.q.bd.length ≤ 9223372036854775807) (hn : n ≤ 9223372036854775807) :
    XF Try.prog W 5 #[.slice p n c] [] (fun v L' => v = .bool true) := by
  refine xf_enter (args := [_]) Try.func5 rfl Try.ntmps5 rfl ?_
  obtain ⟨fb, hfb⟩ : ∃ b : Bool, decide ((∀ x, x ∈ xs → x.q.bd.length ≤ 800) ∧ n ≤ 10) = b := ⟨_, rfl⟩
  focus
    refine xc_seq ?_
    refine xc_region ?_
    refine xo_rd (rd_assign rfl) rfl ?_
    refine xo_nil ?_
    refine xq_seq ?_
    refine xc_seq ?_
    refine xc_seq ?_
    refine xc_region ?_
    refine xo_rd (rd_move rfl) rfl ?_
    refine xo_ef rfl (ef_call rfl (XF.mono (xf_few p n c xs fb hfb hx hr hn hle) ?_))
    rintro v L' ⟨rfl, rfl⟩
    refine xo_rd (rd_not rfl) rfl ?_
    refine xo_nil ?_
    refine xq_seq ?_
    refine xc_cond rfl (fun hh1 => ?_) (fun hh1 => ?_)
    refine xc_seq ?_
    refine xc_region ?_
    refine xo_ef rfl (ef_call rfl (XF.mono (xf_any (fun W => xf_works)) ?_))
    rintro v L' ⟨rfl, rfl⟩
    refine xo_rd (rd_assign rfl) rfl ?_
    refine xo_nil ?_
    refine xq_seq ?_
    refine xc_ret ?_
    refine xq_then_ret ?_
    exact xq_ret1 (.inl rfl) Try.results5 rfl (rfl)
    refine xc_skip ?_
    refine xq_seq ?_
  have e1 : fb = true := by cases fb <;> simp_all
  subst e1
  obtain ⟨hf8, hf10⟩ := of_decide_eq_true hfb
  have hA : ∀ L, PbR W L p xs := fun L => (⟨hr, hbd, hrg, fun x hx => by have := hf8 x hx; omega⟩ : PbR W [] p xs).nilL
  obtain ⟨⟨out, e⟩, hz⟩ : ∃ z, joinL (xs.map Pb.q) = z := ⟨_, rfl⟩
  focus
    refine xc_seq ?_
    refine xc_region ?_
    refine xo_rd (rd_move rfl) rfl ?_
    refine xo_ef rfl (ef_call rfl (XF.mono (xf_rtcps p n c xs hx (hA _) (by omega)) ?_))
    rintro v L' ⟨ys, sy, ky, ly, rfl, hyq, hyo, hys, rfl⟩
    refine xo_rd (rd_assign rfl) rfl ?_
    refine xo_nil ?_
    refine xq_seq ?_
  have hyn : ys.length = n := by have := congrArg List.length hyq; simp at this; omega
  have hyr : ∀ y, y ∈ ys → y.q.Rg := fun y hy => by
    have hm : y.q ∈ xs.map Pb.q := by rw [← hyq]; exact List.mem_map_of_mem hy
    obtain ⟨x, hx, he⟩ := List.mem_map.1 hm
    rw [← he]; exact hrg x hx
  have hyf : ∀ y, y ∈ ys → y.q.bd.length ≤ 1000000 := fun y hy => by
    have hm : y.q ∈ xs.map Pb.q := by rw [← hyq]; exact List.mem_map_of_mem hy
    obtain ⟨x, hx, he⟩ := List.mem_map.1 hm
    rw [← he]; have := hf8 x hx; omega
  have hyP : PbR W (ly ++ (bls ys ++ [])) sy ys := PbR.own hys hyo hyr hyf
  have hol : out.length ≤ 10000000 := by
    have ho : (joinL (xs.map Pb.q)).1 = out := by rw [hz]
    rw [← ho]
    unfold joinL
    split
    · exact Nat.zero_le _
    · split
      · split
        · rename_i hok _
          rw [List.flatMap_map]
          have hall := okJ_iff (xs.map Pb.q) |>.1 hok
          have : ∀ l : List Pb, (∀ x, x ∈ l → (putP x.q).length ≤ 262144) → (l.flatMap (fun x => putP x.q)).length ≤ l.length * 262144 := fun l => by
            induction l with
            | nil => intro _; exact Nat.le_refl _
            | cons a r ih => intro h; rw [List.flatMap_cons, List.length_append, List.length_cons]; have := ih fun x hx => h x (List.mem_cons_of_mem _ hx); have := h a (List.mem_cons_self ..); omega
          have := this xs fun x hx => by
            obtain ⟨j, hj, rfl⟩ := List.getElem_of_mem hx
            have := (hall j (by simpa using hj)).1
            simp only [List.getElem_map] at this
            exact putP_le _ (hrg _ hx) this
          show (xs.flatMap (fun x => putP x.q)).length ≤ 10000000
          omega
        · exact Nat.zero_le _
      · exact Nat.zero_le _
  focus
    refine xc_seq ?_
    refine xc_region ?_
    refine xo_rd (rd_move rfl) rfl ?_
    refine xo_ef rfl (ef_call rfl (XF.mono (xf_rjoin2 sy ys.length ky ys out e (by rw [hyq]; exact hz) rfl hyP (by omega)) ?_))
    rintro v L' ⟨so, ko, lo, rfl, hOo, rfl⟩
    refine xo_rd (rd_move rfl) rfl ?_
    refine xo_rd (rd_extract rfl rfl) rfl ?_
    refine xo_rd (rd_extract rfl rfl) rfl ?_
    refine xo_rd (rd_assign rfl) rfl ?_
    refine xo_rd (rd_assign rfl) rfl ?_
    refine xo_nil ?_
    refine xq_seq ?_
  generalize hL0 : lo ++ (ly ++ (bls ys ++ [])) = L0 at *
  have hloS : ∀ z, z ∈ lo → z ∈ L0 := fun z hz => by rw [← hL0]; exact List.mem_append_left _ hz
  have hyP0 : PbR W L0 sy ys := hyP.mono fun z hz => by rw [← hL0]; exact List.mem_append_right _ hz
  refine xc_join (ι := Unit) (fun _ => True) (fun _ => L0) (fun _ => [(0, .slice p n c), (3, .slice sy ys.length ky)]) ?_ ?_
  · focus
      refine xc_seq ?_
      refine xc_region ?_
      refine xo_rd (rd_assign rfl) rfl ?_
      refine xo_nil ?_
      refine xq_seq ?_
      refine xc_block ?_
    refine xc_loopK (ι := Nat) (fun t => t ≤ 2) (fun t => 2 - t) (fun t => [(0, .slice p n c), (3, .slice sy ys.length ky), (4, .slice so out.length ko), (5, .int .i64 e), (6, .int .i64 t)]) 0 (by decide) (by repeat (first | exact keep_nil | refine keep_cons rfl ?_)) ?_
    intro t ht
    focus
      refine xc_seq ?_
      refine xc_seq ?_
      refine xc_region ?_
      refine xo_rd (rd_move rfl) rfl ?_
      refine xo_rd (rd_lss rfl rfl) rfl ?_
      refine xo_nil ?_
      refine xq_seq ?_
      refine xc_dec rfl (fun hi1 => ?_) (fun hi1 => ?_)
      refine xc_skip ?_
      refine xq_seq ?_
      refine xc_seq ?_
      refine xc_block ?_
      refine xc_seq ?_
      refine xc_region ?_
      refine xo_rd (rd_move rfl) rfl ?_
      refine xo_ef rfl (ef_call rfl (XF.mono (xf_join2 p n c xs out e hz hx (hA _) (by omega)) ?_))
      rintro v L' ⟨s, k, l, rfl, hO, rfl⟩
      refine xo_rd (rd_move rfl) rfl ?_
      refine xo_rd (rd_extract rfl rfl) rfl ?_
      refine xo_rd (rd_extract rfl rfl) rfl ?_
      refine xo_rd (rd_assign rfl) rfl ?_
      refine xo_rd (rd_assign rfl) rfl ?_
      refine xo_nil ?_
      refine xq_seq ?_
      refine xc_seq ?_
      refine xc_seq ?_
      refine xc_region ?_
      refine xo_rd (rd_move rfl) rfl ?_
      refine xo_rd (rd_move rfl) rfl ?_
      refine xo_rd (rd_neq rfl rfl) rfl ?_
      refine xo_rd (rd_move rfl) rfl ?_
      refine xo_ndec 33 rfl (fun h => absurd rfl h) (fun _ => ?_)
      refine xo_grd rfl rfl (rd_move rfl) rfl ?_
      refine xo_grd rfl rfl (rd_move rfl) rfl ?_
      refine xo_gef rfl rfl rfl (ef_call rfl (XF.mono (xf_samebytesT s so out.length out.length k ko out out rfl rfl rfl (hO.rs (by intro z hz; simp [hz])) (hOo.rs (fun z hz => List.mem_append_right _ (hloS z hz))) (by omega)) ?_))
      rintro v L' ⟨rfl, rfl⟩
      refine xo_grd rfl rfl (rd_not rfl) rfl ?_
      refine xo_rd (rd_pickf rfl rfl) rfl ?_
      refine xo_nil ?_
      refine xq_seq ?_
      refine xc_condf rfl ?_
      refine xc_skip ?_
      refine xq_seq ?_
      refine xc_region ?_
      refine xo_rd (rd_move rfl) rfl ?_
      refine xo_ef rfl (ef_call rfl (XF.mono (xf_spoil (.slice s out.length k) out.length (ints .u8 out) l hO (by omega)) ?_))
      rintro v L' ⟨rfl, xs', l', _, rfl⟩
      refine xo_nil ?_
      refine xq_block ?_
      refine xq_seq ?_
      refine xc_region ?_
      refine xo_rd (rd_move rfl) rfl ?_
      refine xo_rd (rd_addn rfl rfl (by omega) (by omega)) rfl ?_
      refine xo_rd (rd_assign rfl) rfl ?_
      refine xo_nil ?_
      rotate_left
      refine xc_exit ?_
      refine xq_then_exit ?_
      refine xq_then_exit ?_
      refine xq_block_hit ?_
      rotate_left
    · exact xq_roundK rfl (t + 1) (by omega) (by omega) (List.sublist_append_right _ _) (by repeat (first | exact keep_nil | refine keep_cons rfl ?_))
    · exact xq_joined () trivial rfl (by repeat (first | exact keep_nil | refine keep_cons rfl ?_))
  · rintro _ _
    focus
      refine xc_seq ?_
      refine xc_seq ?_
      refine xc_region ?_
      refine xo_rd (rd_assign rfl) rfl ?_
      refine xo_nil ?_
      refine xq_seq ?_
      refine xc_block ?_
    refine xc_loopK (ι := Nat) (fun i => i ≤ n) (fun i => n - i) (fun i => [(0, .slice p n c), (3, .slice sy ys.length ky), (9, .int .i64 i)]) 0 (Nat.zero_le _) (by repeat (first | exact keep_nil | refine keep_cons rfl ?_)) ?_
    intro i hi
    by_cases hin : i < n
    · obtain ⟨b, o, hp, hc1⟩ := hr.rows Pb.len (by decide) (by omega)
      obtain ⟨b', o', hp', hc2⟩ := hyP0.rs.rows Pb.len (by decide) (by omega)
      subst hp hp'
      have hci := hc1 i (by omega)
      have hc0 := hc1 0 (by omega)
      have hdi := hc2 i (by omega)
      have hd0 := hc2 0 (by omega)
      have q1 := getq hyq i (by omega) (by omega)
      have q0 := getq hyq 0 (by omega) (by omega)
      have kx := (hA L0).bd xs[i] (List.getElem_mem _)
      have kx0 := (hA L0).bd xs[0] (List.getElem_mem _)
      have ky1 := hyP0.bd ys[i] (List.getElem_mem _)
      have ky0 := hyP0.bd ys[0] (List.getElem_mem _)
      have gx := hrg xs[i] (List.getElem_mem _)
      have gx0 := hrg xs[0] (List.getElem_mem _)
      have fx := hf8 xs[i] (List.getElem_mem _)
      have fx0 := hf8 xs[0] (List.getElem_mem _)
      generalize xs[i] = x at *
      generalize xs[0] = x0 at *
      generalize ys[i] = y at *
      generalize ys[0] = y0 at *
      obtain ⟨rb, hrb⟩ : ∃ r, decide x.q.Right = r := ⟨_, rfl⟩
      obtain ⟨sb, hsb⟩ : ∃ r, decide (x.q = x0.q) = r := ⟨_, rfl⟩
      have hcI : ∀ (j : Nat) (u : Value), x.enc[j]? = some u → Cl W L0 b (o + (i : Int).toNat * 4 + j) u := fun j u hj => (hci j u hj).nil
      have hcZ : ∀ (j : Nat) (u : Value), x0.enc[j]? = some u → Cl W L0 b (o + Int.toNat 0 * 4 + j) u := fun j u hj => (hc0 j u hj).nil
      have hdI : ∀ (j : Nat) (u : Value), y.enc[j]? = some u → Cl W L0 b' (o' + (i : Int).toNat * 4 + j) u := fun j u hj => hdi j u hj
      have hdZ : ∀ (j : Nat) (u : Value), y0.enc[j]? = some u → Cl W L0 b' (o' + Int.toNat 0 * 4 + j) u := fun j u hj => hd0 j u hj
      focus
        refine xc_seq ?_
        refine xc_seq ?_
        refine xc_region ?_
        refine xo_rd (rd_move rfl) rfl ?_
        refine xo_rd (rd_move rfl) rfl ?_
        refine xo_rd (rd_len rfl) rfl ?_
        refine xo_rd (rd_lss rfl rfl) rfl ?_
        refine xo_nil ?_
        refine xq_seq ?_
        refine xc_dec rfl (fun hq1 => ?_) (fun hq1 => (by exfalso; omega))
        refine xc_skip ?_
        refine xq_seq ?_
        refine xc_seq ?_
        refine xc_block ?_
        refine xc_seq ?_
        refine xc_drawML [0, 0, 3, 4, 8, 0, 0, 96, 128, 272, 528, 1536, 2048, 2048, 14336, 18432, 2048, 67584, 133120, 296960, 2048, 2048, 3147776, 4196352, 2048, 16779264, 33556480, 76023808, 134744064, 268437504, 671088640, 1073741824, 1073741824, 7516192768, 9663676416, 1073741824, 1073741824, 104152956928, 138512695296, 293131517952, 550829555712, 1100585369600] [0, 0, 3, 4, 8, 0, 0, 96, 128, 272, 528, 1536, 2048, 2048, 14336, 18432, 2048, 67584, 133120, 296960, 2048, 2048, 3147776, 4196352, 2048, 16779264, 33556480, 76023808, 134744064, 268437504, 671088640, 1073741824, 1073741824, 7516192768, 9663676416, 1073741824, 1073741824, 104152956928, 138512695296, 293131517952, 550829555712, 1100585369600] (by kernel_rfl) (by kernel_rfl) (by kernel_rfl) ?_
        refine xm_take 0 (m' := 1) rfl (by kernel_rfl) (by first | exact Sb.refl | exact Sb.nil | (repeat (first | exact Sb.nil | exact Sb.refl | exact Sb.app0 | apply Sb.keep | apply Sb.keepApp | apply Sb.cons | apply Sb.app))) (rd_move rfl) rfl (by kernel_rfl) ?_
        refine xm_take 1 (m' := 3) rfl (by kernel_rfl) (by first | exact Sb.refl | exact Sb.nil | (repeat (first | exact Sb.nil | exact Sb.refl | exact Sb.app0 | apply Sb.keep | apply Sb.keepApp | apply Sb.cons | apply Sb.app))) (rd_move rfl) rfl (by kernel_rfl) ?_
        refine xm_take 2 (m' := 7) rfl (by kernel_rfl) (by first | exact Sb.refl | exact Sb.nil | (repeat (first | exact Sb.nil | exact Sb.refl | exact Sb.app0 | apply Sb.keep | apply Sb.keepApp | apply Sb.cons | apply Sb.app))) (rd_indexAddr rfl rfl (by omega) (by omega)) rfl (by kernel_rfl) ?_
        refine xm_take 3 (m' := 15) rfl (by kernel_rfl) (by first | exact Sb.refl | exact Sb.nil | (repeat (first | exact Sb.nil | exact Sb.refl | exact Sb.app0 | apply Sb.keep | apply Sb.keepApp | apply Sb.cons | apply Sb.app))) (rd_loadA (vs := x.enc) rfl rfl hcI) rfl (by kernel_rfl) ?_
        refine xm_take 5 (m' := 47) rfl (by kernel_rfl) (by first | exact Sb.refl | exact Sb.nil | (repeat (first | exact Sb.nil | exact Sb.refl | exact Sb.app0 | apply Sb.keep | apply Sb.keepApp | apply Sb.cons | apply Sb.app))) (rd_move rfl) rfl (by kernel_rfl) ?_
        refine xm_take 6 (m' := 111) rfl (by kernel_rfl) (by first | exact Sb.refl | exact Sb.nil | (repeat (first | exact Sb.nil | exact Sb.refl | exact Sb.app0 | apply Sb.keep | apply Sb.keepApp | apply Sb.cons | apply Sb.app))) (rd_move rfl) rfl (by kernel_rfl) ?_
        refine xm_take 7 (m' := 239) rfl (by kernel_rfl) (by first | exact Sb.refl | exact Sb.nil | (repeat (first | exact Sb.nil | exact Sb.refl | exact Sb.app0 | apply Sb.keep | apply Sb.keepApp | apply Sb.cons | apply Sb.app))) (rd_indexAddr rfl rfl (by omega) (by omega)) rfl (by kernel_rfl) ?_
        refine xm_take 8 (m' := 495) rfl (by kernel_rfl) (by first | exact Sb.refl | exact Sb.nil | (repeat (first | exact Sb.nil | exact Sb.refl | exact Sb.app0 | apply Sb.keep | apply Sb.keepApp | apply Sb.cons | apply Sb.app))) (rd_loadA (vs := y.enc) rfl rfl hdI) rfl (by kernel_rfl) ?_
        refine xm_one 4 (m' := 511) rfl (by kernel_rfl) rfl (by kernel_rfl) (ef_call rfl (XF.mono (xf_rightP x rb hrb gx (by omega)) ?_))
        rintro v L' ⟨rfl, rfl⟩
        refine ⟨(by first | exact Sb.refl | exact Sb.nil | (repeat (first | exact Sb.nil | exact Sb.refl | exact Sb.app0 | apply Sb.keep | apply Sb.keepApp | apply Sb.cons | apply Sb.app))), ?_⟩
        refine xm_one 9 (m' := 1023) rfl (by kernel_rfl) rfl (by kernel_rfl) (ef_call rfl (XF.mono (xf_rrightP y rb (by rw [q1]; exact hrb) (by rw [q1]; exact gx) (by rw [q1]; omega)) ?_))
        rintro v L' ⟨rfl, rfl⟩
        refine ⟨(by first | exact Sb.refl | exact Sb.nil | (repeat (first | exact Sb.nil | exact Sb.refl | exact Sb.app0 | apply Sb.keep | apply Sb.keepApp | apply Sb.cons | apply Sb.app))), ?_⟩
        refine xm_take 10 (m' := 2047) rfl (by kernel_rfl) (by first | exact Sb.refl | exact Sb.nil | (repeat (first | exact Sb.nil | exact Sb.refl | exact Sb.app0 | apply Sb.keep | apply Sb.keepApp | apply Sb.cons | apply Sb.app))) (rd_cast (v' := .bool false) (rd_neb rfl rfl) (by simp)) rfl (by kernel_rfl) ?_
        refine xm_take 11 (m' := 4095) rfl (by kernel_rfl) (by first | exact Sb.refl | exact Sb.nil | (repeat (first | exact Sb.nil | exact Sb.refl | exact Sb.app0 | apply Sb.keep | apply Sb.keepApp | apply Sb.cons | apply Sb.app))) (rd_move rfl) rfl (by kernel_rfl) ?_
        refine xm_gtake 12 (m' := 8191) rfl (by kernel_rfl) (by first | exact Sb.refl | exact Sb.nil | (repeat (first | exact Sb.nil | exact Sb.refl | exact Sb.app0 | apply Sb.keep | apply Sb.keepApp | apply Sb.cons | apply Sb.app))) rfl rfl (rd_move rfl) rfl (by kernel_rfl) ?_
        refine xm_gtake 13 (m' := 16383) rfl (by kernel_rfl) (by first | exact Sb.refl | exact Sb.nil | (repeat (first | exact Sb.nil | exact Sb.refl | exact Sb.app0 | apply Sb.keep | apply Sb.keepApp | apply Sb.cons | apply Sb.app))) rfl rfl (rd_move rfl) rfl (by kernel_rfl) ?_
        refine xm_gtake 14 (m' := 32767) rfl (by kernel_rfl) (by first | exact Sb.refl | exact Sb.nil | (repeat (first | exact Sb.nil | exact Sb.refl | exact Sb.app0 | apply Sb.keep | apply Sb.keepApp | apply Sb.cons | apply Sb.app))) rfl rfl (rd_indexAddr rfl rfl (by omega) (by omega)) rfl (by kernel_rfl) ?_
        refine xm_gtake 15 (m' := 65535) rfl (by kernel_rfl) (by first | exact Sb.refl | exact Sb.nil | (repeat (first | exact Sb.nil | exact Sb.refl | exact Sb.app0 | apply Sb.keep | apply Sb.keepApp | apply Sb.cons | apply Sb.app))) rfl rfl (rd_loadA (vs := x.enc) rfl rfl hcI) rfl (by kernel_rfl) ?_
        refine xm_gtake 16 (m' := 131071) rfl (by kernel_rfl) (by first | exact Sb.refl | exact Sb.nil | (repeat (first | exact Sb.nil | exact Sb.refl | exact Sb.app0 | apply Sb.keep | apply Sb.keepApp | apply Sb.cons | apply Sb.app))) rfl rfl (rd_move rfl) rfl (by kernel_rfl) ?_
        refine xm_gtake 17 (m' := 262143) rfl (by kernel_rfl) (by first | exact Sb.refl | exact Sb.nil | (repeat (first | exact Sb.nil | exact Sb.refl | exact Sb.app0 | apply Sb.keep | apply Sb.keepApp | apply Sb.cons | apply Sb.app))) rfl rfl (rd_indexAddr rfl rfl (by omega) (by omega)) rfl (by kernel_rfl) ?_
        refine xm_gtake 18 (m' := 524287) rfl (by kernel_rfl) (by first | exact Sb.refl | exact Sb.nil | (repeat (first | exact Sb.nil | exact Sb.refl | exact Sb.app0 | apply Sb.keep | apply Sb.keepApp | apply Sb.cons | apply Sb.app))) rfl rfl (rd_loadA (vs := x0.enc) rfl rfl hcZ) rfl (by kernel_rfl) ?_
        refine xm_gtake 20 (m' := 1572863) rfl (by kernel_rfl) (by first | exact Sb.refl | exact Sb.nil | (repeat (first | exact Sb.nil | exact Sb.refl | exact Sb.app0 | apply Sb.keep | apply Sb.keepApp | apply Sb.cons | apply Sb.app))) rfl rfl (rd_move rfl) rfl (by kernel_rfl) ?_
        refine xm_gtake 21 (m' := 3670015) rfl (by kernel_rfl) (by first | exact Sb.refl | exact Sb.nil | (repeat (first | exact Sb.nil | exact Sb.refl | exact Sb.app0 | apply Sb.keep | apply Sb.keepApp | apply Sb.cons | apply Sb.app))) rfl rfl (rd_move rfl) rfl (by kernel_rfl) ?_
        refine xm_gtake 22 (m' := 7864319) rfl (by kernel_rfl) (by first | exact Sb.refl | exact Sb.nil | (repeat (first | exact Sb.nil | exact Sb.refl | exact Sb.app0 | apply Sb.keep | apply Sb.keepApp | apply Sb.cons | apply Sb.app))) rfl rfl (rd_indexAddr rfl rfl (by omega) (by omega)) rfl (by kernel_rfl) ?_
        refine xm_gtake 23 (m' := 16252927) rfl (by kernel_rfl) (by first | exact Sb.refl | exact Sb.nil | (repeat (first | exact Sb.nil | exact Sb.refl | exact Sb.app0 | apply Sb.keep | apply Sb.keepApp | apply Sb.cons | apply Sb.app))) rfl rfl (rd_loadA (vs := y.enc) rfl rfl hdI) rfl (by kernel_rfl) ?_
        refine xm_gtake 24 (m' := 33030143) rfl (by kernel_rfl) (by first | exact Sb.refl | exact Sb.nil | (repeat (first | exact Sb.nil | exact Sb.refl | exact Sb.app0 | apply Sb.keep | apply Sb.keepApp | apply Sb.cons | apply Sb.app))) rfl rfl (rd_move rfl) rfl (by kernel_rfl) ?_
        refine xm_gtake 25 (m' := 66584575) rfl (by kernel_rfl) (by first | exact Sb.refl | exact Sb.nil | (repeat (first | exact Sb.nil | exact Sb.refl | exact Sb.app0 | apply Sb.keep | apply Sb.keepApp | apply Sb.cons | apply Sb.app))) rfl rfl (rd_indexAddr rfl rfl (by omega) (by omega)) rfl (by kernel_rfl) ?_
        refine xm_gtake 26 (m' := 133693439) rfl (by kernel_rfl) (by first | exact Sb.refl | exact Sb.nil | (repeat (first | exact Sb.nil | exact Sb.refl | exact Sb.app0 | apply Sb.keep | apply Sb.keepApp | apply Sb.cons | apply Sb.app))) rfl rfl (rd_loadA (vs := y0.enc) rfl rfl hdZ) rfl (by kernel_rfl) ?_
        refine xm_gone 19 (m' := 134217727) rfl (by kernel_rfl) rfl rfl rfl (by kernel_rfl) (ef_call rfl (XF.mono (xf_same2 x x0 sb hsb kx kx0 gx gx0 (by omega)) ?_))
        rintro v L' ⟨rfl, rfl⟩
        refine ⟨(by first | exact Sb.refl | exact Sb.nil | (repeat (first | exact Sb.nil | exact Sb.refl | exact Sb.app0 | apply Sb.keep | apply Sb.keepApp | apply Sb.cons | apply Sb.app))), ?_⟩
        refine xm_gone 27 (m' := 268435455) rfl (by kernel_rfl) rfl rfl rfl (by kernel_rfl) (ef_call rfl (XF.mono (xf_rsame2 y y0 sb (by rw [q1, q0]; exact hsb) ky1 ky0 (by rw [q1]; exact gx) (by rw [q0]; exact gx0) (by rw [q1]; omega)) ?_))
        rintro v L' ⟨rfl, rfl⟩
        refine ⟨(by first | exact Sb.refl | exact Sb.nil | (repeat (first | exact Sb.nil | exact Sb.refl | exact Sb.app0 | apply Sb.keep | apply Sb.keepApp | apply Sb.cons | apply Sb.app))), ?_⟩
        refine xm_gtake 28 (m' := 536870911) rfl (by kernel_rfl) (by first | exact Sb.refl | exact Sb.nil | (repeat (first | exact Sb.nil | exact Sb.refl | exact Sb.app0 | apply Sb.keep | apply Sb.keepApp | apply Sb.cons | apply Sb.app))) rfl rfl (rd_cast (v' := .bool false) (rd_neb rfl rfl) (by simp)) rfl (by kernel_rfl) ?_
        refine xm_take 29 (m' := 1073741823) rfl (by kernel_rfl) (by first | exact Sb.refl | exact Sb.nil | (repeat (first | exact Sb.nil | exact Sb.refl | exact Sb.app0 | apply Sb.keep | apply Sb.keepApp | apply Sb.cons | apply Sb.app))) (rd_pickf rfl rfl) rfl (by kernel_rfl) ?_
        refine xm_take 30 (m' := 2147483647) rfl (by kernel_rfl) (by first | exact Sb.refl | exact Sb.nil | (repeat (first | exact Sb.nil | exact Sb.refl | exact Sb.app0 | apply Sb.keep | apply Sb.keepApp | apply Sb.cons | apply Sb.app))) (rd_move rfl) rfl (by kernel_rfl) ?_
        refine xm_gtake 31 (m' := 4294967295) rfl (by kernel_rfl) (by first | exact Sb.refl | exact Sb.nil | (repeat (first | exact Sb.nil | exact Sb.refl | exact Sb.app0 | apply Sb.keep | apply Sb.keepApp | apply Sb.cons | apply Sb.app))) rfl rfl (rd_move rfl) rfl (by kernel_rfl) ?_
        refine xm_gtake 32 (m' := 8589934591) rfl (by kernel_rfl) (by first | exact Sb.refl | exact Sb.nil | (repeat (first | exact Sb.nil | exact Sb.refl | exact Sb.app0 | apply Sb.keep | apply Sb.keepApp | apply Sb.cons | apply Sb.app))) rfl rfl (rd_move rfl) rfl (by kernel_rfl) ?_
        refine xm_gtake 33 (m' := 17179869183) rfl (by kernel_rfl) (by first | exact Sb.refl | exact Sb.nil | (repeat (first | exact Sb.nil | exact Sb.refl | exact Sb.app0 | apply Sb.keep | apply Sb.keepApp | apply Sb.cons | apply Sb.app))) rfl rfl (rd_indexAddr rfl rfl (by omega) (by omega)) rfl (by kernel_rfl) ?_
        refine xm_gtake 34 (m' := 34359738367) rfl (by kernel_rfl) (by first | exact Sb.refl | exact Sb.nil | (repeat (first | exact Sb.nil | exact Sb.refl | exact Sb.app0 | apply Sb.keep | apply Sb.keepApp | apply Sb.cons | apply Sb.app))) rfl rfl (rd_loadA (vs := x.enc) rfl rfl hcI) rfl (by kernel_rfl) ?_
        refine xm_gtake 35 (m' := 68719476735) rfl (by kernel_rfl) (by first | exact Sb.refl | exact Sb.nil | (repeat (first | exact Sb.nil | exact Sb.refl | exact Sb.app0 | apply Sb.keep | apply Sb.keepApp | apply Sb.cons | apply Sb.app))) rfl rfl (rd_move rfl) rfl (by kernel_rfl) ?_
        refine xm_gtake 36 (m' := 137438953471) rfl (by kernel_rfl) (by first | exact Sb.refl | exact Sb.nil | (repeat (first | exact Sb.nil | exact Sb.refl | exact Sb.app0 | apply Sb.keep | apply Sb.keepApp | apply Sb.cons | apply Sb.app))) rfl rfl (rd_move rfl) rfl (by kernel_rfl) ?_
        refine xm_gtake 37 (m' := 274877906943) rfl (by kernel_rfl) (by first | exact Sb.refl | exact Sb.nil | (repeat (first | exact Sb.nil | exact Sb.refl | exact Sb.app0 | apply Sb.keep | apply Sb.keepApp | apply Sb.cons | apply Sb.app))) rfl rfl (rd_indexAddr rfl rfl (by omega) (by omega)) rfl (by kernel_rfl) ?_
        refine xm_gtake 38 (m' := 549755813887) rfl (by kernel_rfl) (by first | exact Sb.refl | exact Sb.nil | (repeat (first | exact Sb.nil | exact Sb.refl | exact Sb.app0 | apply Sb.keep | apply Sb.keepApp | apply Sb.cons | apply Sb.app))) rfl rfl (rd_loadA (vs := x.enc) rfl rfl hcI) rfl (by kernel_rfl) ?_
        refine xm_gone 39 (m' := 1099511627775) rfl (by kernel_rfl) rfl rfl rfl (by kernel_rfl) (ef_call rfl (XF.mono (xf_same2 x x true (decide_eq_true rfl) kx kx gx gx (by omega)) ?_))
        rintro v L' ⟨rfl, rfl⟩
        refine ⟨(by first | exact Sb.refl | exact Sb.nil | (repeat (first | exact Sb.nil | exact Sb.refl | exact Sb.app0 | apply Sb.keep | apply Sb.keepApp | apply Sb.cons | apply Sb.app))), ?_⟩
        refine xm_gtake 40 (m' := 2199023255551) rfl (by kernel_rfl) (by first | exact Sb.refl | exact Sb.nil | (repeat (first | exact Sb.nil | exact Sb.refl | exact Sb.app0 | apply Sb.keep | apply Sb.keepApp | apply Sb.cons | apply Sb.app))) rfl rfl (rd_not rfl) rfl (by kernel_rfl) ?_
        refine xm_take 41 (m' := 4398046511103) rfl (by kernel_rfl) (by first | exact Sb.refl | exact Sb.nil | (repeat (first | exact Sb.nil | exact Sb.refl | exact Sb.app0 | apply Sb.keep | apply Sb.keepApp | apply Sb.cons | apply Sb.app))) (rd_pickf rfl rfl) rfl (by kernel_rfl) ?_
        refine xm_done (by kernel_rfl) ?_
        refine xq_seq ?_
        refine xc_condf rfl ?_
        refine xc_skip ?_
        refine xq_block ?_
        refine xq_seq ?_
        refine xc_region ?_
        refine xo_rd (rd_move rfl) rfl ?_
        refine xo_rd (rd_addn rfl rfl (by omega) (by omega)) rfl ?_
        refine xo_rd (rd_assign rfl) rfl ?_
        refine xo_nil ?_
      exact xq_roundK rfl (i + 1) (by omega) (by omega) (List.Sublist.refl _) (by repeat (first | exact keep_nil | refine keep_cons rfl ?_))
    · skip
      focus
        refine xc_seq ?_
        refine xc_seq ?_
        refine xc_region ?_
        refine xo_rd (rd_move rfl) rfl ?_
        refine xo_rd (rd_move rfl) rfl ?_
        refine xo_rd (rd_len rfl) rfl ?_
        refine xo_rd (rd_lss rfl rfl) rfl ?_
        refine xo_nil ?_
        refine xq_seq ?_
        refine xc_dec rfl (fun h1 => (by exfalso; omega)) (fun h1 => ?_)
        refine xc_exit ?_
        refine xq_then_exit ?_
        refine xq_then_exit ?_
        refine xq_block_hit ?_
        refine xq_seq ?_
        refine xc_seq ?_
        refine xc_region ?_
        refine xo_rd (rd_move rfl) rfl ?_
        refine xo_rd (rd_move rfl) rfl ?_
        refine xo_ef rfl (ef_call rfl (XF.mono (xf_sameRs p sy n ys.length c ky xs ys true (by rw [hyq]; exact decide_eq_true rfl) hx rfl (hA _) hyP0 (by omega)) ?_))
        rintro v L' ⟨rfl, rfl⟩
        refine xo_rd (rd_move rfl) rfl ?_
        refine xo_gef rfl rfl rfl (ef_call rfl (XF.mono (xf_any (fun W => xf_works)) ?_))
        rintro v L' ⟨rfl, rfl⟩
        refine xo_rd (rd_pickt rfl rfl) rfl ?_
        refine xo_rd (rd_assign rfl) rfl ?_
        refine xo_nil ?_
        refine xq_seq ?_
        refine xc_ret ?_
        exact xq_ret1 (.inl rfl) Try.results5 rfl (rfl)
end Go.Proofs.Ytohlaabclifbfaa.X
/-
  What is joined is split as it was; what is split is right, and joined as the same bytes, but for the padding's: plain laws, no program.
-/
namespace Go.Proofs.Ytohlaabclifbfaa.X
open Go Go.RowKit
set_option linter.unusedVariables false
set_option linter.unusedSimpArgs false
theorem tailL_pos {pd : Int} (h : 0 < pd) : tailL pd = List.replicate (pd - 1).toNat 0 ++ [pd] := by unfold tailL; rw [if_pos h]
theorem tailL_zero {pd : Int} (h : ¬ 0 < pd) : tailL pd = [] := by unfold tailL; rw [if_neg h]
theorem take_put (q : Pc) (rest : List Int) (f : Bool) (hg : q.Rg) (hR : q.Right) (hf : f = true → isFirst q.kd = true) (hp : 0 < q.pd → rest = []) : takeP (putP q ++ rest) f = (0, q, rest) := by
  obtain ⟨ct, kd, bd, pd⟩ := q
  have g1 := hg.ct; have g2 := hg.kd; have g4 := hg.pd
  obtain ⟨e1, e2, e3, e4⟩ := hR
  dsimp only [By] at g1 g2 g4 e1 e2 e3 e4 hf hp
  obtain ⟨w, hw⟩ : ∃ w, w = ((bd.length : Int) + pd) / 4 := ⟨_, rfl⟩
  have hwb : 0 ≤ w ∧ w ≤ 65535 := by omega
  obtain ⟨F, hF⟩ : ∃ F, F = fst6 ⟨ct, kd, bd, pd⟩ := ⟨_, rfl⟩
  have hFv : F / 64 = 2 ∧ F % 32 = ct ∧ (F / 32 % 2 = if 0 < pd then 1 else 0) := by
    have : F = 128 + ct + if 0 < pd then 32 else 0 := hF
    by_cases hp : 0 < pd
    · rw [if_pos hp] at this ⊢; omega
    · rw [if_neg hp] at this ⊢; omega
  have hb : putP ⟨ct, kd, bd, pd⟩ ++ rest = F :: kd :: (w / 256 % 256) :: (w % 256) :: (bd ++ (tailL pd ++ rest)) := by
    rw [hF, hw]
    show [fst6 _, kd] ++ be2 _ ++ (bd ++ tailL pd) ++ rest = _
    rw [List.append_assoc, List.append_assoc, List.append_assoc]
    rfl
  have hv : vl [w / 256 % 256, w % 256] = w := vl_be2 w hwb.1 hwb.2
  rw [hb]
  show takeT F kd (4 * vl [w / 256 % 256, w % 256]).toNat (bd ++ (tailL pd ++ rest)) f = _
  rw [hv]
  obtain ⟨k, hk⟩ : ∃ k : Nat, (4 * w).toNat = k := ⟨_, rfl⟩
  have hkv : (k : Int) = (bd.length : Int) + pd := by omega
  rw [hk]
  have htl := tailL_len pd g4.1
  have hff : ¬ (f = true ∧ isFirst kd = false) := fun h => by rw [hf h.1] at h; cases h.2
  unfold takeT
  rw [if_neg (by omega), if_neg hff, if_neg (by rw [List.length_append, List.length_append]; omega)]
  by_cases hpd : 0 < pd
  · have hr := hp hpd
    subst hr
    rw [List.append_nil]
    rw [if_pos hpd] at hFv
    have hlen : (bd ++ tailL pd).length = k := by rw [List.length_append]; omega
    have hlast : (bd ++ tailL pd).getD (k - 1) 0 = pd := by
      rw [← hlen, tailL_pos hpd, ← List.append_assoc, List.length_append, List.length_singleton, Nat.add_sub_cancel]
      simp [List.getD_eq_getElem?_getD]
    rw [if_pos hFv.2.2, hlast, if_neg (by rw [hlen]; omega), hFv.2.1, show k - pd.toNat = bd.length from by omega, List.take_left]
  · rw [if_neg hpd] at hFv
    have h0 : pd = 0 := by omega
    subst h0
    rw [if_neg (by omega), hFv.2.1, tailL_zero (by decide), List.nil_append, show k = bd.length from by omega, List.take_left, List.drop_left]
theorem putP_ge (q : Pc) (hg : q.Rg) : 4 ≤ (putP q).length := by
  have := putP_len q hg
  have := hg.pd.1
  omega
theorem split_join : ∀ (qs : List Pc) (K : Nat) (f : Bool), qs.length + 1 ≤ K → (∀ q, q ∈ qs → q.Rg) → okJ qs = true → (f = true → qs ≠ [] ∧ isFirst (kind0 qs) = true) → splitL K f (qs.flatMap putP) = (qs, 0)
  | [], 0, f, hK, _, _, _ => absurd hK (by decide)
  | [], K + 1, f, _, _, _, hf => by
    have : f = false := by cases f with
      | false => rfl
      | true => exact absurd rfl (hf rfl).1
    subst this
    rfl
  | q :: r, 0, f, hK, _, _, _ => by simp at hK
  | q :: r, K + 1, f, hK, hg, hok, hf => by
    have hok2 : okJ (q :: r) = (decide q.Right && (decide (q.pd ≤ 0) || r.isEmpty) && okJ r) := rfl
    rw [hok2] at hok
    simp only [Bool.and_eq_true, Bool.or_eq_true, decide_eq_true_eq, List.isEmpty_iff] at hok
    obtain ⟨⟨hR, hlast⟩, hokr⟩ := hok
    have hqg := hg q (List.mem_cons_self ..)
    have htk := take_put q (r.flatMap putP) f hqg hR (fun h => (hf h).2) (fun h => by rcases hlast with h2 | h2; omega; rw [h2]; rfl)
    have ih := split_join r K false (by simp at hK; omega) (fun z hz => hg z (List.mem_cons_of_mem _ hz)) hokr (fun h => by cases h)
    rw [List.flatMap_cons]
    have hne : ¬ (putP q ++ r.flatMap putP = [] ∧ f = false) := fun h => by
      have h1 := (List.append_eq_nil_iff.1 h.1).1
      have h2 := putP_ge q hqg
      rw [h1] at h2
      exact absurd h2 (by decide)
    unfold splitL
    rw [if_neg hne, htk, if_neg (fun h => h rfl), ih, if_neg (fun h => h rfl)]
theorem takeP_inv {b : List Int} {f : Bool} {q : Pc} {r : List Int} (h : takeP b f = (0, q, r)) (hb : ∀ x, x ∈ b → By x) : q.Rg ∧ q.Right ∧ (f = true → isFirst q.kd = true) ∧ (0 < q.pd → r = []) ∧ ∃ X pb, b = X ++ (pb ++ r) ∧ putP q = X ++ tailL q.pd ∧ (pb.length : Int) = q.pd ∧ (0 < q.pd → pb.getD (pb.length - 1) 0 = q.pd) := by
  have hrg := (takeP_by (b := b) (f := f) hb).1
  rw [h] at hrg
  rcases b with _ | ⟨b0, _ | ⟨b1, _ | ⟨b2, _ | ⟨b3, t⟩⟩⟩⟩
  · cases h
  · cases h
  · cases h
  · cases h
  have g0 := hb b0 (by simp); have g1 := hb b1 (by simp); have g2 := hb b2 (by simp); have g3 := hb b3 (by simp)
  have hbt : ∀ x, x ∈ t → By x := fun x hx => hb x (by simp [hx])
  replace h : takeT b0 b1 (4 * vl [b2, b3]).toNat t f = (0, q, r) := h
  obtain ⟨w, hw⟩ : ∃ w, vl [b2, b3] = w := ⟨_, rfl⟩
  have hwb : 0 ≤ w ∧ w ≤ 65535 := by rw [← hw]; unfold By at g2 g3; simp only [vl, List.foldl]; omega
  have hbe := be2_vl b2 b3 g2 g3
  rw [hw] at h hbe
  obtain ⟨k, hk⟩ : ∃ k : Nat, (4 * w).toNat = k := ⟨_, rfl⟩
  have hkv : (k : Int) = 4 * w := by omega
  rw [hk] at h
  refine ⟨hrg, ?_⟩
  unfold By at g0 g1
  unfold takeT at h
  split at h
  · cases h
  · rename_i h64
    split at h
    · cases h
    · rename_i hff
      have hff2 : f = true → isFirst b1 = true := fun hf => by
        cases hi : isFirst b1 with
        | true => rfl
        | false => exact absurd ⟨hf, hi⟩ hff
      split at h
      · cases h
      · rename_i htk
        split at h
        · rename_i h32
          split at h
          · cases h
          · rename_i hz
            simp only [Prod.mk.injEq, true_and] at h
            obtain ⟨rfl, rfl⟩ := h
            obtain ⟨z, hzz⟩ : ∃ z, t.getD (k - 1) 0 = z := ⟨_, rfl⟩
            rw [hzz] at hz hrg ⊢
            have hzb := hrg.pd
            unfold By at hzb
            dsimp only at hzb
            obtain ⟨j, hj⟩ : ∃ j : Nat, z = j := ⟨z.toNat, by omega⟩
            have hlt : (t.take (k - z.toNat)).length = k - j := by rw [List.length_take]; omega
            refine ⟨⟨?_, ?_, ?_, ?_⟩, hff2, fun _ => rfl, [b0, b1] ++ be2 w ++ t.take (k - z.toNat), t.drop (k - z.toNat), ?_, ?_, ?_, fun _ => ?_⟩
            · dsimp only; omega
            · dsimp only; rw [hlt]; omega
            · dsimp only; omega
            · dsimp only; rw [hlt]; omega
            · rw [hbe, List.append_nil, List.append_assoc, List.take_append_drop]; rfl
            · unfold putP fst6
              dsimp only
              rw [hlt, if_pos (by omega), show ((k - j : Nat) : Int) + z = 4 * w from by omega, show 4 * w / 4 = w from by omega, show 128 + b0 % 32 + 32 = b0 from by omega]
              simp only [List.append_assoc]
            · dsimp only; rw [List.length_drop]; omega
            · dsimp only
              rw [List.length_drop, List.getD_eq_getElem?_getD, List.getElem?_drop, show k - z.toNat + (t.length - (k - z.toNat) - 1) = k - 1 from by omega, ← List.getD_eq_getElem?_getD]
              exact hzz
        · rename_i h32
          simp only [Prod.mk.injEq, true_and] at h
          obtain ⟨rfl, rfl⟩ := h
          have hlt : (t.take k).length = k := by rw [List.length_take]; omega
          refine ⟨⟨?_, ?_, ?_, ?_⟩, hff2, fun h => absurd (show (0 : Int) < 0 from h) (by decide), [b0, b1] ++ be2 w ++ t.take k, [], ?_, ?_, rfl, fun h => absurd (show (0 : Int) < 0 from h) (by decide)⟩
          · dsimp only; omega
          · dsimp only; rw [hlt]; omega
          · dsimp only; decide
          · dsimp only; rw [hlt]; omega
          · rw [hbe, List.nil_append, List.append_assoc, List.take_append_drop]; rfl
          · unfold putP fst6
            dsimp only
            rw [hlt, if_neg (by decide), show (k : Int) + 0 = 4 * w from by omega, show 4 * w / 4 = w from by omega, show 128 + b0 % 32 + 0 = b0 from by omega]
            simp only [List.append_assoc]
theorem split_inv : ∀ (K : Nat) (f : Bool) (b : List Int) (qs : List Pc), b.length + 1 ≤ K → (∀ x, x ∈ b → By x) → splitL K f b = (qs, 0) →
    okJ qs = true ∧ (f = true → qs ≠ [] ∧ isFirst (kind0 qs) = true) ∧ ∃ X pb pd, b = X ++ pb ∧ qs.flatMap putP = X ++ tailL pd ∧ (pb.length : Int) = pd ∧ (0 < pd → pb.getD (pb.length - 1) 0 = pd) ∧ (∀ q, qs.getLast? = some q → q.pd = pd)
  | 0, f, b, qs, hK, _, _ => absurd hK (by omega)
  | K + 1, f, b, qs, hK, hb, h => by
    unfold splitL at h
    split at h
    · rename_i h0
      simp only [Prod.mk.injEq, and_true] at h
      subst h
      refine ⟨rfl, fun hf => by (rw [h0.2] at hf; cases hf), [], [], 0, h0.1, rfl, rfl, fun h => absurd h (by decide), fun q hq => by cases hq⟩
    · rename_i hne
      split at h
      · rename_i h1
        simp only [Prod.mk.injEq] at h
        exact absurd h.2 h1
      · rename_i h1
        split at h
        · rename_i h2
          simp only [Prod.mk.injEq] at h
          exact absurd h.2 h2
        · rename_i h2
          simp only [Prod.mk.injEq, and_true] at h
          obtain ⟨⟨e, q, r⟩, ht⟩ : ∃ z, takeP b f = z := ⟨_, rfl⟩
          rw [ht] at h1 h2 h
          dsimp only at h1 h2 h
          have he : e = 0 := by simpa using h1
          subst he
          have hlen := takeP_len (b := b) (f := f) (by rw [ht])
          rw [ht] at hlen
          dsimp only at hlen
          have hbr := (takeP_by (b := b) (f := f) hb).2
          rw [ht] at hbr
          obtain ⟨i1, i2, i3, i4, X0, pb0, i5, i6, i7, i8⟩ := takeP_inv ht hb
          obtain ⟨⟨qs', e'⟩, hs⟩ : ∃ z, splitL K false r = z := ⟨_, rfl⟩
          rw [hs] at h2 h
          dsimp only at h2 h
          have he' : e' = 0 := by simpa using h2
          subst he'
          subst h
          obtain ⟨j1, _, X', pb', pd', j3, j4, j5, j6, j7⟩ := split_inv K false r qs' (by omega) hbr hs
          have hpd := i1.pd.1
          by_cases hp : 0 < q.pd
          · have hr := i4 hp
            subst hr
            have hq' : qs' = [] := by
              obtain ⟨K', rfl⟩ : ∃ K', K = K' + 1 := ⟨K - 1, by omega⟩
              have : splitL (K' + 1) false [] = ([], 0) := rfl
              rw [this] at hs
              simp only [Prod.mk.injEq, and_true] at hs
              exact hs.symm
            subst hq'
            refine ⟨?_, fun hf => ⟨by simp, i3 hf⟩, X0, pb0, q.pd, by rw [i5, List.append_nil], by rw [List.flatMap_singleton]; exact i6, i7, i8, fun z hz => ?_⟩
            · show (decide q.Right && (decide (q.pd ≤ 0) || true) && okJ []) = true
              rw [decide_eq_true i2, Bool.or_true]; rfl
            · simp only [List.getLast?_singleton, Option.some.injEq] at hz
              rw [hz]
          · have hp0 : q.pd = 0 := by omega
            rw [tailL_zero hp, List.append_nil] at i6
            have hpb : pb0 = [] := List.length_eq_zero_iff.1 (by omega)
            subst hpb
            refine ⟨?_, fun hf => ⟨by simp, i3 hf⟩, X0 ++ X', pb', pd', by rw [i5, j3, List.nil_append, List.append_assoc], by rw [List.flatMap_cons, i6, j4, List.append_assoc], j5, j6, fun z hz => ?_⟩
            · show (decide q.Right && (decide (q.pd ≤ 0) || qs'.isEmpty) && okJ qs') = true
              rw [decide_eq_true i2, decide_eq_true (show q.pd ≤ 0 by omega), j1]; rfl
            · cases qs' with
              | nil =>
                simp only [List.getLast?_singleton, Option.some.injEq] at hz
                rw [← hz, hp0]
                have hl := congrArg List.length j4
                simp only [List.flatMap_nil, List.length_nil, List.length_append] at hl
                have hpd'0 : 0 ≤ pd' := by omega
                have := tailL_len pd' hpd'0
                omega
              | cons a t =>
                rw [List.getLast?_cons_cons] at hz
                exact j7 z hz
theorem back_at {X pb : List Int} {pd : Int} (hp : (pb.length : Int) = pd) (hl : 0 < pd → pb.getD (pb.length - 1) 0 = pd) (i : Nat) (hi : i < X.length + pb.length) :
    (X.length ≤ i ∧ i < X.length + pb.length - 1 → (X ++ tailL pd).getD i 0 = 0) ∧ (¬ (X.length ≤ i ∧ i < X.length + pb.length - 1) → (X ++ tailL pd).getD i 0 = (X ++ pb).getD i 0) := by
  by_cases h : i < X.length
  · refine ⟨fun h' => by omega, fun _ => ?_⟩
    rw [List.getD_eq_getElem?_getD, List.getD_eq_getElem?_getD, List.getElem?_append_left h, List.getElem?_append_left h]
  · have h0 : 0 < pd := by omega
    have ea : ∀ Y : List Int, (X ++ Y).getD i 0 = Y.getD (i - X.length) 0 := fun Y => by
      rw [List.getD_eq_getElem?_getD, List.getD_eq_getElem?_getD, List.getElem?_append_right (by omega)]
    rw [tailL_pos h0, ea, ea, List.getD_eq_getElem?_getD]
    refine ⟨fun h' => ?_, fun h' => ?_⟩
    · rw [List.getElem?_append_left (by rw [List.length_replicate]; omega), List.getElem?_replicate, if_pos (by omega)]; rfl
    · have hi' : i - X.length = pb.length - 1 := by omega
      rw [List.getElem?_append_right (by rw [List.length_replicate]; omega), hi', List.length_replicate, show pb.length - 1 - (pd - 1).toNat = 0 from by omega, hl h0]
      rfl
end Go.Proofs.Ytohlaabclifbfaa.X
/-
  Words of my own: what an argument that can be read holds, for the rows. No condition; generic over the program.
-/
namespace Go.Proofs.Ytohlaabclifbfaa.X
open Go Go.RowKit
set_option linter.unusedVariables false
set_option linter.unusedSimpArgs false

/-- Cells of type T that can be read in W are those of some a that is good. -/
def Op' (P : Program) (W : World) (T : Nat) {α : Type} (enc : α → List Value) (Good : α → Prop) : Prop :=
  ∀ {H : Type} (encH : TypeId × Value → H) (fuel : Nat) (cs : List Value) (x : DataW H × List MemPlace), DataW.trod encH P W 0 (fun _ => true) true fuel T cs = some x → ∃ a, cs = enc a ∧ Good a

def InK (k : IntKind) (n : Int) : Prop := k.min ≤ n ∧ n ≤ k.max
theorem inK_u64 {n : Int} : InK .u64 n ↔ 0 ≤ n ∧ n ≤ 18446744073709551615 := Iff.rfl
theorem inK_u32 {n : Int} : InK .u32 n ↔ 0 ≤ n ∧ n ≤ 4294967295 := Iff.rfl
theorem inK_u16 {n : Int} : InK .u16 n ↔ 0 ≤ n ∧ n ≤ 65535 := Iff.rfl
theorem inK_u8 {n : Int} : InK .u8 n ↔ 0 ≤ n ∧ n ≤ 255 := Iff.rfl
theorem inK_i64 {n : Int} : InK .i64 n ↔ -9223372036854775808 ≤ n ∧ n ≤ 9223372036854775807 := Iff.rfl
theorem inK_i32 {n : Int} : InK .i32 n ↔ -2147483648 ≤ n ∧ n ≤ 2147483647 := Iff.rfl
theorem inK_of {k : IntKind} {n : Int} (h : (Lit.int k n).wf = true) : InK k n := by simpa [Lit.wf, InK] using h

/-- A slice's value: where, how many, and what its elements are. -/
structure SlV (α : Type) where
  p : Option Addr
  n : Nat
  c : Nat
  l : List α
def SlV.enc {α : Type} (v : SlV α) : List Value := [.slice v.p v.n v.c]
structure SlV.Good {α : Type} (W : World) (enc : α → List Value) (G : α → Prop) (v : SlV α) : Prop where
  len : v.l.length = v.n
  rs : Rs W [] v.p (v.l.flatMap enc)
  all : ∀ x, x ∈ v.l → G x
  cap : v.n ≤ v.c
  max : v.c ≤ 9223372036854775807
theorem exists_list {α : Type} {R : Nat → α → Prop} : ∀ (n : Nat), (∀ i, i < n → ∃ x, R i x) → ∃ l : List α, l.length = n ∧ ∀ (i : Nat) (x : α), l[i]? = some x → R i x
  | 0, _ => ⟨[], rfl, fun i x h => by cases h⟩
  | n + 1, h => by
    obtain ⟨l, hl, hr⟩ := exists_list n (fun i hi => h i (by omega))
    obtain ⟨x, hx⟩ := h n (by omega)
    refine ⟨l ++ [x], by simp [hl], fun i y hy => ?_⟩
    by_cases hi : i < n
    · rw [List.getElem?_append_left (by omega)] at hy; exact hr i y hy
    · rw [List.getElem?_append_right (by omega)] at hy
      have : i = n := by
        have := (List.getElem?_eq_some_iff.1 hy).1
        simp at this; omega
      subst this
      simp [hl] at hy
      subst hy; exact hx
theorem flat_at {α : Type} (enc : α → List Value) {s : Nat} (hs : ∀ x, (enc x).length = s) (h0 : 0 < s) : ∀ (l : List α) (j : Nat) (u : Value), (l.flatMap enc)[j]? = some u → ∃ x, l[j / s]? = some x ∧ (enc x)[j % s]? = some u
  | [], j, u, h => by simp at h
  | y :: r, j, u, h => by
    rw [List.flatMap_cons] at h
    by_cases hj : j < s
    · rw [List.getElem?_append_left (by rw [hs]; exact hj)] at h
      exact ⟨y, by rw [Nat.div_eq_of_lt hj]; rfl, by rw [Nat.mod_eq_of_lt hj]; exact h⟩
    · rw [List.getElem?_append_right (by rw [hs]; omega), hs] at h
      obtain ⟨x, h1, h2⟩ := flat_at enc hs h0 r (j - s) u h
      refine ⟨x, ?_, ?_⟩
      · rw [show j / s = (j - s) / s + 1 from by rw [Nat.div_eq_sub_div h0 (by omega)]]; simpa using h1
      · rw [show j % s = (j - s) % s from Nat.mod_eq_sub_mod (by omega)]; exact h2
section
variable {P : Program} {W : World}
theorem op_int {T : Nat} {k : IntKind} [h : Ik P T k] : Op' P W T (fun n : Int => [.int k n]) (InK k) := fun encH fuel cs x hx => by
  obtain ⟨n, h1, h2, h3⟩ := DataW.trod_int h.h hx
  exact ⟨n, h1, inK_of h3⟩
theorem op_bool {T : Nat} [h : Bo P T] : Op' P W T (fun b : Bool => [.bool b]) (fun _ => True) := fun encH fuel cs x hx => by
  obtain ⟨n, h1, h2⟩ := DataW.trod_bool h.h hx
  exact ⟨n, h1, trivial⟩
theorem op_string {T : Nat} [h : St P T] : Op' P W T (fun s : ByteArray => [.string s]) (fun s => s.size ≤ 9223372036854775807) := fun encH fuel cs x hx => by
  obtain ⟨s, h1, h2, h3⟩ := DataW.trod_string h.h hx
  exact ⟨s, h1, by unfold maxLen at h3; exact h3⟩
theorem op_slice {α : Type} {T e s : Nat} {z : Value} {bt : Nat} {enc : α → List Value} {G : α → Prop} [h : Sl P T e] [hi : Inf P e z s bt] (he : Op' P W e enc G) (hs : ∀ x, (enc x).length = s) (h0 : 0 < s) :
    Op' P W T (SlV.enc (α := α)) (SlV.Good W enc G) := fun encH fuel cs x hx => by
  have hc : P.cellsOf e = s := by
    obtain ⟨i, h1, h2, h3, h4, h5⟩ := hi.h
    simp [Program.cellsOf, h1, h3]
  rcases DataW.trod_slice h.h hx with ⟨h1, _⟩ | ⟨a, len, cap, elems, rest, m, _, h1, _, _, hl, hm, hlen, hel, _, _⟩
  · exact ⟨⟨none, 0, 0, []⟩, h1, ⟨rfl, Rs.nil, (fun _ h => by cases h), Nat.le_refl _, Nat.zero_le _⟩⟩
  · rw [hc] at hel
    have hex : ∀ i, i < len → ∃ x, W.cells? 0 (a.add (i * s)) s = some (enc x) ∧ G x := fun i hi => by
      have h2 := hel i hi
      rw [List.getElem?_eq_getElem (by omega)] at h2
      obtain ⟨ecs, h3, h4⟩ := Option.bind_eq_some_iff.1 h2
      obtain ⟨x, rfl, hg⟩ := he encH m ecs _ h4
      exact ⟨x, h3, hg⟩
    obtain ⟨l, hl1, hl2⟩ := exists_list len hex
    refine ⟨⟨some a, len, cap, l⟩, h1, ⟨hl1, ?_, ?_, hl, by unfold maxLen at hm; exact hm⟩⟩
    · intro j u hj
      have cell : ∀ j u, (l.flatMap enc)[j]? = some u → W.cell? (a.add j) = some u := fun j u hj => by
        obtain ⟨x, h2, h3⟩ := flat_at enc hs h0 l j u hj
        have h4 := (hl2 _ _ h2).1
        have h5 := (World.cells?_some h4).2.2 (j % s) (Nat.mod_lt _ h0)
        rw [h3] at h5
        have h6 : (a.add (j / s * s)).add (j % s) = a.add j := by
          have hdm : j / s * s + j % s = j := by rw [Nat.mul_comm]; exact Nat.div_add_mod j s
          obtain ⟨b, o, sp⟩ := a
          unfold Addr.add
          by_cases e1 : j / s * s = 0
          · rw [if_pos e1]
            have e2 : j % s = j := by omega
            rw [e2]
          · rw [if_neg e1, if_neg (show ¬ j = 0 by omega)]
            by_cases e2 : j % s = 0
            · rw [if_pos e2]
              have : j / s * s = j := by omega
              rw [this]
            · rw [if_neg e2]
              simp only [Addr.mk.injEq, true_and, and_true]
              omega
        rw [h6] at h5
        exact h5
      have hpos : 0 < (l.flatMap enc).length := Nat.lt_of_le_of_lt (Nat.zero_le j) (List.getElem?_eq_some_iff.1 hj).1
      have hsp : a.spot = none := by
        have := cell 0 _ (List.getElem?_eq_getElem hpos)
        have e0 : a.add 0 = a := rfl
        rw [e0] at this
        unfold World.cell? at this
        split at this
        · split at this
          · cases this
          · rename_i hh; simpa using hh
        · cases this
      obtain ⟨b, o, sp⟩ := a
      subst hsp
      refine ⟨b, o, rfl, Cl.base ?_⟩
      have := cell j u hj
      rwa [add_zero'] at this
    · intro x hx
      obtain ⟨i, hi1, hi2⟩ := List.getElem_of_mem hx
      exact (hl2 i x (by rw [List.getElem?_eq_getElem hi1, hi2])).2
/-- A struct's field. -/
theorem op_field {H : Type} {encH : TypeId × Value → H} {fuel T : Nat} {cs : List Value} {x : DataW H × List MemPlace} {fs : Array Field} (hT : P.underlying T = some (.struct fs)) (h : DataW.trod encH P W 0 (fun _ => true) true fuel T cs = some x) :
    cs.length = P.cellsOf T ∧ ∀ (i : Nat) (f : Field), fs[i]? = some f → ∃ m y, DataW.trod encH P W 0 (fun _ => true) true m f.type ((cs.drop f.offset).take (P.cellsOf f.type)) = some y := by
  obtain ⟨xs, m, _, _, h1, h2, h3⟩ := DataW.trod_struct hT h
  refine ⟨h1, fun i f hf => ⟨m, xs[i]'(by have := (Array.getElem?_eq_some_iff.1 hf).1; omega), ?_⟩⟩
  rw [h3 i f hf, List.getElem?_eq_getElem]
theorem op_field' {α : Type} {enc : α → List Value} {G : α → Prop} {T i off Tf s : Nat} {z : Value} {bt : Nat} [hF : Fd P T i off Tf] [hi : Inf P Tf z s bt] (he : Op' P W Tf enc G) {H : Type} {encH : TypeId × Value → H} {fuel : Nat} {cs : List Value} {x : DataW H × List MemPlace}
    (h : DataW.trod encH P W 0 (fun _ => true) true fuel T cs = some x) : ∃ a, (cs.drop off).take s = enc a ∧ G a := by
  obtain ⟨fs, f, h1, h2, h3, h4⟩ := hF.h
  have hc : P.cellsOf Tf = s := by
    obtain ⟨i, h1, h2, h3, h4, h5⟩ := hi.h
    simp [Program.cellsOf, h1, h3]
  obtain ⟨_, h5⟩ := op_field h1 h
  obtain ⟨m, y, h6⟩ := h5 i f h2
  rw [h3, h4, hc] at h6
  exact he encH m _ y h6
theorem op_len {T s : Nat} {z : Value} {bt i off Tf : Nat} [hF : Fd P T i off Tf] [hi : Inf P T z s bt] {H : Type} {encH : TypeId × Value → H} {fuel : Nat} {cs : List Value} {x : DataW H × List MemPlace}
    (h : DataW.trod encH P W 0 (fun _ => true) true fuel T cs = some x) : cs.length = s := by
  obtain ⟨fs, f, h1, h2, h3, h4⟩ := hF.h
  have hc : P.cellsOf T = s := by
    obtain ⟨i, h1, h2, h3, h4, h5⟩ := hi.h
    simp [Program.cellsOf, h1, h3]
  rw [← hc]
  exact (op_field h1 h).1
/-- The argument's value itself. -/
theorem top_one {α : Type} {T : Nat} {enc : α → List Value} {G : α → Prop} (he : Op' P W T enc G) {H : Type} {encH : TypeId × Value → H} {v : Value} {d : DataW H} {ps : List MemPlace} (h : DataW.Trod encH P W 0 (fun _ => true) true T v d ps) (h1 : v.cells.toList = [v]) : ∃ a, [v] = enc a ∧ G a := by
  obtain ⟨fuel, hf⟩ := h
  rw [h1] at hf
  exact he encH fuel _ _ hf
theorem top_agg {α : Type} {T : Nat} {enc : α → List Value} {G : α → Prop} (he : Op' P W T enc G) {H : Type} {encH : TypeId × Value → H} {cs : Array Value} {d : DataW H} {ps : List MemPlace} (h : DataW.Trod encH P W 0 (fun _ => true) true T (.agg cs) d ps) : ∃ a, cs = (enc a).toArray ∧ G a := by
  obtain ⟨fuel, hf⟩ := h
  obtain ⟨a, h1, h2⟩ := he encH fuel _ _ hf
  refine ⟨a, ?_, h2⟩
  have h3 : cs.toList = enc a := h1
  rw [← h3]
end
end Go.Proofs.Ytohlaabclifbfaa.X
/-
  The arguments of the rows: rows of packets.
-/
namespace Go.Proofs.Ytohlaabclifbfaa.X
open Go Go.RowKit
set_option linter.unusedVariables false
set_option linter.unusedSimpArgs false
structure Pkc where
  f0 : Int
  f1 : Int
  f2 : (SlV Int)
  f3 : Int
def Pkc.enc (x : Pkc) : List Value := [.int .u8 x.f0, .int .u8 x.f1, .slice x.f2.p x.f2.n x.f2.c, .int .u8 x.f3]
theorem Pkc.len (x : Pkc) : x.enc.length = 4 := rfl
def Pkc.Good (W : World) (x : Pkc) : Prop := (InK .u8) x.f0 ∧ (InK .u8) x.f1 ∧ (SlV.Good W (fun n : Int => [Value.int .u8 n]) (InK .u8)) x.f2 ∧ (InK .u8) x.f3
theorem Pkc.op {W : World} : Op' Try.prog W 35 Pkc.enc (Pkc.Good W) := fun encH fuel cs y h => by
  have hl := op_len (T := 35) (i := 0) h
  obtain ⟨a0, e0, g0⟩ := op_field' (T := 35) (i := 0) op_int h
  obtain ⟨a1, e1, g1⟩ := op_field' (T := 35) (i := 1) op_int h
  obtain ⟨a2, e2, g2⟩ := op_field' (T := 35) (i := 2) (op_slice (T := 22) (e := 5) op_int (fun _ => rfl) (by decide)) h
  obtain ⟨a3, e3, g3⟩ := op_field' (T := 35) (i := 3) op_int h
  refine ⟨⟨a0, a1, a2, a3⟩, ?_, ⟨g0, g1, g2, g3⟩⟩
  obtain ⟨c0, c1, c2, c3, rfl⟩ := list4 hl
  have e0' : [c0] = (fun n : Int => [Value.int .u8 n]) a0 := e0
  have e1' : [c1] = (fun n : Int => [Value.int .u8 n]) a1 := e1
  have e2' : [c2] = (SlV.enc (α := Int)) a2 := e2
  have e3' : [c3] = (fun n : Int => [Value.int .u8 n]) a3 := e3
  show _ = (fun n : Int => [Value.int .u8 n]) a0 ++ (fun n : Int => [Value.int .u8 n]) a1 ++ (SlV.enc (α := Int)) a2 ++ (fun n : Int => [Value.int .u8 n]) a3
  rw [← e0', ← e1', ← e2', ← e3']; rfl
def Pkc.pb (x : Pkc) : Pb := ⟨⟨x.f0, x.f1, x.f2.l, x.f3⟩, x.f2.p, x.f2.c, []⟩
theorem Pkc.pbE {W : World} {x : Pkc} (g : x.Good W) : x.pb.enc = x.enc := by
  obtain ⟨_, _, h2, _⟩ := g
  have e2 := h2.len
  unfold Pkc.enc Pkc.pb Pb.enc Pc.enc
  dsimp only
  rw [e2]
theorem Pkc.rg {W : World} {x : Pkc} (g : x.Good W) : x.pb.q.Rg := by
  obtain ⟨h0, h1, h2, h3⟩ := g
  exact ⟨h0, h1, fun z hz => h2.all z hz, h3⟩
theorem Pkc.rs {W : World} {x : Pkc} (g : x.Good W) : Rs W [] x.pb.p (ints .u8 x.pb.q.bd) := by
  obtain ⟨h0, h1, h2, h3⟩ := g
  have := h2.rs
  rwa [ints_flat] at this
theorem Pkc.le {W : World} {x : Pkc} (g : x.Good W) : x.pb.q.bd.length ≤ 9223372036854775807 := by
  obtain ⟨h0, h1, h2, h3⟩ := g
  show x.f2.l.length ≤ _
  rw [h2.len]; exact Nat.le_trans h2.cap h2.max
theorem Pkc.flat {W : World} : ∀ (l : List Pkc), (∀ x, x ∈ l → x.Good W) → (l.map Pkc.pb).flatMap Pb.enc = l.flatMap Pkc.enc
  | [], _ => rfl
  | a :: r, h => by
    rw [List.map_cons, List.flatMap_cons, List.flatMap_cons, Pkc.flat r fun x hx => h x (List.mem_cons_of_mem _ hx), Pkc.pbE (h a (List.mem_cons_self ..))]
structure Pkc.Rows (W : World) (a : SlV Pkc) : Prop where
  len : (a.l.map Pkc.pb).length = a.n
  rs : Rs W [] a.p ((a.l.map Pkc.pb).flatMap Pb.enc)
  bd : ∀ x, x ∈ a.l.map Pkc.pb → Rs W [] x.p (ints .u8 x.q.bd)
  rg : ∀ x, x ∈ a.l.map Pkc.pb → x.q.Rg
  le : ∀ x, x ∈ a.l.map Pkc.pb → x.q.bd.length ≤ 9223372036854775807
  max : a.n ≤ 9223372036854775807
theorem Pkc.rows {W : World} {a : SlV Pkc} (g : a.Good W Pkc.enc (Pkc.Good W)) : Pkc.Rows W a := by
  have hm : ∀ x, x ∈ a.l.map Pkc.pb → ∃ y, y ∈ a.l ∧ x = y.pb := fun x hx => by
    obtain ⟨y, hy, rfl⟩ := List.mem_map.1 hx
    exact ⟨y, hy, rfl⟩
  refine ⟨by rw [List.length_map]; exact g.len, by rw [Pkc.flat a.l g.all]; exact g.rs, fun x hx => ?_, fun x hx => ?_, fun x hx => ?_, Nat.le_trans g.cap g.max⟩
  · obtain ⟨y, hy, rfl⟩ := hm x hx; exact Pkc.rs (g.all y hy)
  · obtain ⟨y, hy, rfl⟩ := hm x hx; exact Pkc.rg (g.all y hy)
  · obtain ⟨y, hy, rfl⟩ := hm x hx; exact Pkc.le (g.all y hy)
theorem joins (W : World) (a0 : SlV Pkc) (g0 : a0.Good W Pkc.enc (Pkc.Good W)) : XF Try.prog W 5 #[.slice a0.p a0.n a0.c] [] (fun v L' => v = .bool true) := by
  have h := Pkc.rows g0
  exact xf_RtcpJoins a0.p a0.n a0.c (a0.l.map Pkc.pb) h.len h.rs h.bd h.rg h.le h.max
end Go.Proofs.Ytohlaabclifbfaa.X
