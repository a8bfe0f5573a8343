/-
  RosterSources: plain laws, and the walk of the law.
-/
import Derived.Test.YtginfcoaaioaeaaA6
namespace Go.Proofs.Ytginfcoaaioaeaa.X
open Go Go.RowKit
set_option linter.unusedVariables false
set_option linter.unusedSimpArgs false
section
variable {W : World} {n : Nat} {L : List Blk} {E : List (Nat × Value)} {d : Option Nat} {t : TypeId} {pos : String} {after : Array Edge} {g : Option (Nat × Bool)}
theorem rd_neSame31 {T' : Nat} {x y : Operand} {a : Mb} (hx : ev E x = some (.agg a.enc.toArray)) (hy : ev E y = some (.agg a.enc.toArray)) : RD Try.prog W n L E ⟨d, .binOp .neq 31 x y T', t, pos, after, g⟩ (.bool false) := by
  have := rd_neMb31 (W := W) (n := n) (L := L) (d := d) (t := t) (pos := pos) (after := after) (g := g) (T' := T') hx hy
  rwa [show decide (a = a) = true from by simp, Bool.not_true] at this
end
theorem leave_filter (l : List Mb) (id : Int) (h : (l.map Mb.id).Nodup) : l.filter (fun m => decide (m.id ≠ id)) = leaveL l id := by
  unfold leaveL
  induction l with
  | nil => rfl
  | cons a l ih =>
    rw [List.map_cons, List.nodup_cons] at h
    by_cases e : a.id = id
    · subst e
      rw [List.filter_cons_of_neg (by simp), List.eraseP_cons_of_pos (by simp), List.filter_eq_self]
      intro m hm
      simp only [ne_eq, decide_not, Bool.not_eq_true', decide_eq_false_iff_not]
      exact fun e => h.1 (List.mem_map.2 ⟨m, hm, e⟩)
    · rw [List.filter_cons_of_pos (by simpa using e), List.eraseP_cons_of_neg (by simpa using e), ih h.2]
theorem getSrc_mem {l : List Mb} (h : (srcs l).Nodup) {m : Mb} (hm : m ∈ l) {s : Int} (hs : m.src s = true) : getSrc l s = some m := by
  unfold getSrc
  induction l with
  | nil => cases hm
  | cons a l ih =>
    rw [show srcs (a :: l) = a.content :: a.camera :: srcs l from rfl, List.nodup_cons, List.nodup_cons] at h
    rcases List.mem_cons.1 hm with rfl | hm'
    · rw [List.find?_cons, hs]
    · have hsl : s ∈ srcs l := by
        refine List.mem_flatMap.2 ⟨m, hm', ?_⟩
        simp only [Mb.src, Bool.or_eq_true, beq_iff_eq] at hs
        rcases hs with rfl | rfl <;> simp
      have : ¬ a.src s = true := by
        simp only [Mb.src, Bool.or_eq_true, beq_iff_eq]
        rintro (rfl | rfl)
        · exact h.1 (List.mem_cons_of_mem _ hsl)
        · exact h.2.1 hsl
      rw [List.find?_cons, (by simpa using this : a.src s = false)]
      exact ih h.2.2 hm'
theorem Fit.zero {most : Int} {l : List Mb} (h : Fit most l) : getSrc l 0 = none := by
  cases e : getSrc l 0 with
  | none => rfl
  | some m =>
    obtain ⟨hm, hs⟩ := getSrc_some e
    have := h.right m hm
    unfold Mb.right at this
    simp only [Mb.src, Bool.or_eq_true, beq_iff_eq] at hs
    rcases hs with hs | hs
    · exact absurd (.inr (.inl hs)) this
    · exact absurd (.inr (.inr (.inl hs))) this
/-- Who leaves: what is told afterwards. -/
theorem leave_src {most : Int} {l : List Mb} (h : Fit most l) (id : Int) : getSrc (leaveL l id) ((getId l id).getD ⟨0, 0, 0, false⟩).content = none ∧ getSrc (leaveL l id) ((getId l id).getD ⟨0, 0, 0, false⟩).camera = none ∧ (getId l id).isSome = decide (leaveE l id = 0) := by
  rcases ix_cases l id with ⟨he, hg, hlv⟩ | ⟨i, hi, he, hg, hid, hlv⟩
  · unfold leaveE
    rw [hg, hlv]
    exact ⟨h.zero, h.zero, by simp⟩
  · unfold leaveE
    rw [hg, hlv]
    have hs := srcOf_leave l i hi h.src
    have e : ∀ s, srcOf (l.eraseIdx i) s = none → getSrc (l.eraseIdx i) s = none := fun s hs => by
      unfold srcOf at hs
      simpa using hs
    refine ⟨e _ ?_, e _ ?_, by simp⟩
    · rw [← hs]; unfold mupd; simp only [Option.getD_some]; split <;> rfl
    · rw [← hs]; unfold mupd; simp
structure SrS where
  i : Nat
  x : Ro
  v : Value
  l : List Blk
structure SrI (most : Int) (n : Nat) (s : SrS) : Prop where
  i : s.i ≤ n
  ok : s.x.Ok
  most : s.x.most = most
  o : SlO 4 31 s.v s.x.ms.length (s.x.ms.flatMap Mb.enc) s.l
set_option maxHeartbeats 8000000 in
theorem xf_RosterSources {W : World} (most : Int) (p : Option Addr) (n c : Nat) (xs : List Act) (hx : xs.length = n) (hr : Rs W [] p (xs.flatMap Act.enc)) (hn : n ≤ 9223372036854775807) :
    XF Try.prog W 3 #[.int .i64 most, .slice p n c] [] (fun v L' => v = .bool true) := by
  refine xf_enter (args := [_, _]) Try.func3 rfl Try.ntmps3 rfl ?_
  by_cases hs : 0 ≤ most ∧ most ≤ 32
  · focus
      refine xc_seq ?_
      refine xc_region ?_
      refine xo_rd (rd_assign rfl) rfl ?_
      refine xo_nil ?_
      refine xq_seq ?_
      refine xc_seq ?_
      refine xc_region ?_
      refine xo_rd (rd_move rfl) rfl ?_
    refine xo_ef rfl (ef_call rfl (XF.mono (xf_new most hs) ?_))
    rintro v L' ⟨x, hxo, rfl, hmo, hms, rfl⟩
    focus
      refine xo_rd (rd_move rfl) rfl ?_
      refine xo_rd (rd_extract rfl rfl) rfl ?_
      refine xo_rd (rd_extract rfl rfl) rfl ?_
      refine xo_rd (rd_assign rfl) rfl ?_
      refine xo_rd (rd_assign rfl) rfl ?_
      refine xo_nil ?_
      refine xq_seq ?_
      refine xc_seq ?_
      refine xc_seq ?_
      refine xc_region ?_
      refine xo_rd (rd_move rfl) rfl ?_
      refine xo_rd (rd_neq rfl rfl) rfl ?_
      refine xo_rd (rd_move rfl) rfl ?_
      refine xo_grd rfl rfl (rd_move rfl) rfl ?_
      refine xo_grd rfl rfl (rd_len rfl) rfl ?_
      refine xo_grd rfl rfl (rd_gtr rfl rfl) rfl ?_
      refine xo_rd (rd_pickf rfl rfl) rfl ?_
      refine xo_nil ?_
      refine xq_seq ?_
      refine xc_dec rfl (fun hb1 => ?_) (fun hb1 => ?_)
      refine xc_seq ?_
      refine xc_region ?_
      refine xo_ef rfl (ef_call rfl (XF.mono (xf_works) ?_))
      rintro v L' ⟨rfl, rfl⟩
      refine xo_rd (rd_assign rfl) rfl ?_
      refine xo_nil ?_
      refine xq_seq ?_
      refine xc_ret ?_
      refine xq_then_ret ?_
      exact xq_ret1 (.inl rfl) Try.results3 rfl (rfl)
      refine xc_skip ?_
      refine xq_seq ?_
      refine xc_seq ?_
      refine xc_region ?_
      refine xo_rd (rd_assign rfl) rfl ?_
      refine xo_nil ?_
      refine xq_seq ?_
      refine xc_seq ?_
      refine xc_seq ?_
      refine xc_region ?_
      refine xo_rd (rd_assign rfl) rfl ?_
      refine xo_nil ?_
      refine xq_seq ?_
      refine xc_block ?_
    refine xc_loopI (ι := SrS) (SrI most n) (fun s => n - s.i) (fun s => s.x.blks ++ s.l) (fun s => [(0, .int .i64 most), (1, .slice p n c), (5, .pointer (some ⟨s.x.c, 0, none⟩)), (7, s.v), (8, .int .i64 s.i)]) ⟨0, x, .slice none 0 0, []⟩ ⟨Nat.zero_le _, hxo, hmo, by dsimp only; rw [hms]; exact SlO.nil⟩ rfl (by repeat (first | exact keep_nil | refine keep_cons rfl ?_)) ?_
    rintro ⟨i, x, v, l⟩ ⟨hi, hxo, hmo, hO⟩
    dsimp only at hi hxo hmo hO ⊢
    focus
      refine xc_seq ?_
      refine xc_seq ?_
      refine xc_region ?_
      refine xo_rd (rd_move rfl) rfl ?_
      refine xo_rd (rd_move rfl) rfl ?_
      refine xo_rd (rd_len rfl) rfl ?_
      refine xo_rd (rd_lss rfl rfl) rfl ?_
      refine xo_nil ?_
      refine xq_seq ?_
      refine xc_dec rfl (fun hi1 => ?_) (fun hi1 => ?_)
      refine xc_skip ?_
      refine xq_seq ?_
      rotate_left
      refine xc_exit ?_
      refine xq_then_exit ?_
      refine xq_then_exit ?_
      refine xq_block_hit ?_
      refine xq_seq ?_
      refine xc_seq ?_
      refine xc_region ?_
      refine xo_ef rfl (ef_call rfl (XF.mono (xf_works) ?_))
      rintro v L' ⟨rfl, rfl⟩
      refine xo_rd (rd_assign rfl) rfl ?_
      refine xo_nil ?_
      refine xq_seq ?_
      refine xc_ret ?_
      exact xq_ret1 (.inl rfl) Try.results3 rfl (rfl)
    · have hin : i < xs.length := by omega
      obtain ⟨b0, o0, hp, hc⟩ := hr.rows Act.len (by decide) (by omega)
      subst hp
      have hci := hc i hin
      generalize xs[i] = a at *
      have hcA : ∀ (A : List Blk) (j : Nat) (u : Value), a.enc[j]? = some u → Cl W A b0 (o0 + i * 5 + j) u := fun A j u hj => (hci j u hj).nil
      have hcM : ∀ (A : List Blk) (j : Nat) (u : Value), a.f1.enc[j]? = some u → Cl W A b0 (o0 + i * 5 + 1 + j) u := fun A j u hj => by
        have := hcA A (1 + j) u (by unfold Act.enc; rw [List.getElem?_append_right (by simp)]; simpa using hj)
        rwa [Nat.add_assoc]
      have hlm := hxo.fit.len
      have hmost := hxo.fit.most
      obtain ⟨pv, cv, rfl, hO, hcv⟩ := hO.opn
      refine xc_seq (xc_block ?_)
      refine xc_join (ι := Ro × Value × List Blk) (fun s => s.1.Ok ∧ s.1.most = most ∧ SlO 4 31 s.2.1 s.1.ms.length (s.1.ms.flatMap Mb.enc) s.2.2) (fun s => s.1.blks ++ s.2.2) (fun s => [(0, .int .i64 most), (1, .slice (some ⟨b0, o0, none⟩) n c), (5, .pointer (some ⟨s.1.c, 0, none⟩)), (7, s.2.1), (8, .int .i64 i)]) ?_ ?_
      · skip
        focus
          refine xc_seq ?_
          refine xc_region ?_
          refine xo_rd (rd_move rfl) rfl ?_
          refine xo_rd (rd_move rfl) rfl ?_
          refine xo_rd (rd_indexAddr rfl rfl (by omega) (by omega)) rfl ?_
          refine xo_rd (rd_fieldAddr rfl) rfl ?_
          refine xo_rd (rd_load1 rfl (hcA _ 0 _ rfl)) rfl ?_
          refine xo_nil ?_
          refine xq_seq ?_
          refine xc_cond rfl (fun hq1 => ?_) (fun hq1 => ?_)
          refine xc_seq ?_
          refine xc_region ?_
          refine xo_rd (rd_move rfl) rfl ?_
          refine xo_rd (rd_move rfl) rfl ?_
          refine xo_rd (rd_move rfl) rfl ?_
          refine xo_rd (rd_indexAddr rfl rfl (by omega) (by omega)) rfl ?_
          refine xo_rd (rd_fieldAddr rfl) rfl ?_
          refine xo_rd (rd_fieldAddr rfl) rfl ?_
          refine xo_rd (rd_load1 rfl (hcA _ 1 _ rfl)) rfl ?_
          rotate_left
          refine xc_seq ?_
          refine xc_region ?_
          refine xo_rd (rd_move rfl) rfl ?_
          refine xo_rd (rd_move rfl) rfl ?_
          refine xo_rd (rd_move rfl) rfl ?_
          refine xo_rd (rd_indexAddr rfl rfl (by omega) (by omega)) rfl ?_
          refine xo_rd (rd_fieldAddr rfl) rfl ?_
          refine xo_rd (rd_loadA (vs := a.f1.enc) rfl rfl (hcM _)) rfl ?_
          rotate_left
        · obtain ⟨ls1, ls2, ls3⟩ := leave_src hxo.fit a.f1.id
          refine xo_ef rfl (ef_call rfl (XF.mono (xf_get x hxo a.f1.id) ?_))
          rintro v L' ⟨rfl, rfl⟩
          generalize (getId x.ms a.f1.id).getD ⟨0, 0, 0, false⟩ = m at *
          generalize hok : (getId x.ms a.f1.id).isSome = ok at *
          focus
            refine xo_rd (rd_move rfl) rfl ?_
            refine xo_rd (rd_extract rfl rfl) rfl ?_
            refine xo_rd (rd_extract rfl rfl) rfl ?_
            refine xo_ef rfl (ef_alloc fun r9 => ?_)
            refine xo_ef rfl (ef_storeB [] _ rfl rfl (by first | rfl | assumption) rfl rfl rfl ?_)
            refine xo_rd (rd_assign rfl) rfl ?_
            refine xo_nil ?_
            refine xq_seq ?_
            refine xc_seq ?_
            refine xc_region ?_
            refine xo_rd (rd_move rfl) rfl ?_
            refine xo_rd (rd_move rfl) rfl ?_
            refine xo_rd (rd_move rfl) rfl ?_
            refine xo_rd (rd_indexAddr rfl rfl (by omega) (by omega)) rfl ?_
            refine xo_rd (rd_fieldAddr rfl) rfl ?_
            refine xo_rd (rd_fieldAddr rfl) rfl ?_
            refine xo_rd (rd_load1 rfl (hcA _ 1 _ rfl)) rfl ?_
          refine xo_ef rfl (ef_call rfl (XF.mono (XF.seg [_] x.blks l (xf_leave x hxo a.f1.id)) ?_))
          rintro v L' ⟨rfl, y, hy, hyc, hym, hys, rfl⟩
          refine xo_seg [_] y.blks l ?_
          rw [← hyc]
          rw [← hys] at ls1 ls2
          rw [hmo] at hym
          focus
            refine xo_rd (rd_assign rfl) rfl ?_
            refine xo_nil ?_
            refine xq_seq ?_
            refine xc_seq ?_
            refine xc_seq ?_
            refine xc_region ?_
            refine xo_rd (rd_move rfl) rfl ?_
            refine xo_rd (rd_move rfl) rfl ?_
            refine xo_rd (rd_eql rfl rfl) rfl ?_
            refine xo_rd (rd_neb rfl rfl) rfl ?_
            refine xo_nil ?_
            refine xq_seq ?_
            refine xc_cond rfl (fun hr1 => ?_) (fun hr1 => ?_)
            refine xc_seq ?_
            refine xc_region ?_
            refine xo_rd (rd_assign rfl) rfl ?_
            refine xo_nil ?_
            refine xq_seq ?_
            refine xc_ret ?_
            refine xq_then_ret ?_
            refine xq_then_ret ?_
            refine xq_block_ret ?_
            refine xq_then_ret ?_
            refine xq_then_ret ?_
            refine xq_block_ret ?_
            refine xq_then_ret ?_
            rotate_left
            refine xc_skip ?_
            refine xq_seq ?_
            refine xc_seq ?_
            refine xc_region ?_
            refine xo_rd (rd_move rfl) rfl ?_
            refine xo_rd (rd_fieldAddr rfl) rfl ?_
            refine xo_rd (rd_load1 rfl (Cl.o0 rfl)) rfl ?_
            rotate_left
          · refine absurd hr1 ?_
            rw [ls3]; simp
          refine xo_ef rfl (ef_call rfl (XF.mono (XF.seg [_] y.blks l (xf_source_none y hy m.content ls1)) ?_))
          rintro v L' ⟨rfl, rfl⟩
          refine xo_seg [_] y.blks l ?_
          focus
            refine xo_rd (rd_move rfl) rfl ?_
            refine xo_rd (rd_extract rfl rfl) rfl ?_
            refine xo_rd (rd_extract rfl rfl) rfl ?_
            refine xo_rd (rd_extract rfl rfl) rfl ?_
            refine xo_ef rfl (ef_alloc fun r12 => ?_)
            refine xo_ef rfl (ef_storeB [] _ rfl rfl (by first | rfl | assumption) rfl rfl rfl ?_)
            refine xo_rd (rd_assign rfl) rfl ?_
            refine xo_rd (rd_assign rfl) rfl ?_
            refine xo_nil ?_
            refine xq_seq ?_
            refine xc_seq ?_
            refine xc_region ?_
            refine xo_rd (rd_move rfl) rfl ?_
            refine xo_rd (rd_fieldAddr rfl) rfl ?_
            refine xo_rd (rd_load1 rfl (Cl.o1 rfl)) rfl ?_
          refine xo_ef rfl (ef_call rfl (XF.mono (XF.seg [_, _] y.blks l (xf_source_none y hy m.camera ls2)) ?_))
          rintro v L' ⟨rfl, rfl⟩
          refine xo_seg [_, _] y.blks l ?_
          focus
            refine xo_rd (rd_move rfl) rfl ?_
            refine xo_rd (rd_extract rfl rfl) rfl ?_
            refine xo_rd (rd_extract rfl rfl) rfl ?_
            refine xo_rd (rd_extract rfl rfl) rfl ?_
            refine xo_ef rfl (ef_alloc fun r15 => ?_)
            refine xo_ef rfl (ef_storeB [] _ rfl rfl (by first | rfl | assumption) rfl rfl rfl ?_)
            refine xo_rd (rd_assign rfl) rfl ?_
            refine xo_rd (rd_assign rfl) rfl ?_
            refine xo_nil ?_
            refine xq_seq ?_
          refine xc_join (ι := Unit) (fun _ => True) (fun _ => y.blks ++ l) (fun s => [(0, .int .i64 most), (1, .slice (some ⟨b0, o0, none⟩) n c), (5, .pointer (some ⟨y.c, 0, none⟩)), (7, .slice pv x.ms.length cv), (8, .int .i64 i)]) ?_ ?_
          · focus
              refine xc_seq ?_
              refine xc_region ?_
              refine xo_rd (rd_move rfl) rfl ?_
              refine xo_rd (rd_move rfl) rfl ?_
              refine xo_split 92 rfl (fun h1 => ?_) (fun h1 => ?_)
              refine xo_grd rfl rfl (rd_move rfl) rfl ?_
              refine xo_grd rfl rfl (rd_move rfl) rfl ?_
              refine xo_grd rfl rfl (rd_move rfl) rfl ?_
              refine xo_grd rfl rfl (rd_pickf rfl rfl) rfl ?_
              refine xo_rd (rd_pickt rfl rfl) rfl ?_
              refine xo_nil ?_
              refine xq_seq ?_
              refine xc_condf rfl ?_
              refine xc_skip ?_
              rotate_left
              refine xo_gskip rfl rfl rfl rfl ?_
              refine xo_gskip rfl rfl rfl rfl ?_
              refine xo_gskipU rfl rfl rfl ?_
              refine xo_gskip rfl rfl rfl rfl ?_
              refine xo_rd (rd_pickf rfl rfl) rfl ?_
              refine xo_nil ?_
              refine xq_seq ?_
              refine xc_condf rfl ?_
              refine xc_skip ?_
              rotate_left
            · refine xq_sb (M := y.blks ++ l) (by first | exact Sb.refl | exact Sb.nil | (repeat (first | exact Sb.nil | exact Sb.refl | exact Sb.app0 | apply Sb.keep | apply Sb.keepApp | apply Sb.cons | apply Sb.app))) ?_
              exact xq_joined () trivial rfl (by repeat (first | exact keep_nil | refine keep_cons rfl ?_))
            · refine xq_sb (M := y.blks ++ l) (by first | exact Sb.refl | exact Sb.nil | (repeat (first | exact Sb.nil | exact Sb.refl | exact Sb.app0 | apply Sb.keep | apply Sb.keepApp | apply Sb.cons | apply Sb.app))) ?_
              exact xq_joined () trivial rfl (by repeat (first | exact keep_nil | refine keep_cons rfl ?_))
          · rintro _ _
            have hlc : (x.ms.take 0).filter (fun m => decide (m.id ≠ a.f1.id)) = [] := rfl
            focus
              refine xc_seq ?_
              refine xc_region ?_
              refine xo_rd (rd_assign rfl) rfl ?_
              refine xo_nil ?_
              refine xq_seq ?_
              refine xc_seq ?_
              refine xc_seq ?_
              refine xc_region ?_
              refine xo_rd (rd_assign rfl) rfl ?_
              refine xo_nil ?_
              refine xq_seq ?_
              refine xc_block ?_
            refine xc_loopI (ι := Nat × Value × List Blk) (fun s => s.1 ≤ x.ms.length ∧ SlO 4 31 s.2.1 ((x.ms.take s.1).filter (fun m => decide (m.id ≠ a.f1.id))).length (((x.ms.take s.1).filter (fun m => decide (m.id ≠ a.f1.id))).flatMap Mb.enc) s.2.2) (fun s => x.ms.length - s.1) (fun s => s.2.2 ++ (y.blks ++ l)) (fun s => [(0, .int .i64 most), (1, .slice (some ⟨b0, o0, none⟩) n c), (5, .pointer (some ⟨y.c, 0, none⟩)), (7, .slice pv x.ms.length cv), (8, .int .i64 i), (18, s.2.1), (19, .int .i64 s.1)]) (0, .slice none 0 0, []) ⟨Nat.zero_le _, by dsimp only; rw [hlc]; exact SlO.nil⟩ rfl (by repeat (first | exact keep_nil | refine keep_cons rfl ?_)) ?_
            rintro ⟨k, v, lo⟩ ⟨hk, hOo⟩
            dsimp only at hk hOo ⊢
            focus
              refine xc_seq ?_
              refine xc_seq ?_
              refine xc_region ?_
              refine xo_rd (rd_move rfl) rfl ?_
              refine xo_rd (rd_move rfl) rfl ?_
              refine xo_rd (rd_len rfl) rfl ?_
              refine xo_rd (rd_lss rfl rfl) rfl ?_
              refine xo_nil ?_
              refine xq_seq ?_
              refine xc_dec rfl (fun hk1 => ?_) (fun hk1 => ?_)
              refine xc_skip ?_
              refine xq_seq ?_
              refine xc_seq ?_
              refine xc_block ?_
              refine xc_seq ?_
              refine xc_drawML [0, 0, 3, 4, 8, 0, 0, 96, 128, 256, 512, 1040] [0, 0, 3, 4, 8, 0, 0, 96, 128, 256, 512, 1040] (by kernel_rfl) (by kernel_rfl) (by kernel_rfl) ?_
              refine xm_take 0 (m' := 1) rfl (by kernel_rfl) (by first | exact Sb.refl | exact Sb.nil | (repeat (first | exact Sb.nil | exact Sb.refl | exact Sb.app0 | apply Sb.keep | apply Sb.keepApp | apply Sb.cons | apply Sb.app))) (rd_move rfl) rfl (by kernel_rfl) ?_
              refine xm_take 1 (m' := 3) rfl (by kernel_rfl) (by first | exact Sb.refl | exact Sb.nil | (repeat (first | exact Sb.nil | exact Sb.refl | exact Sb.app0 | apply Sb.keep | apply Sb.keepApp | apply Sb.cons | apply Sb.app))) (rd_move rfl) rfl (by kernel_rfl) ?_
              refine xm_take 5 (m' := 35) rfl (by kernel_rfl) (by first | exact Sb.refl | exact Sb.nil | (repeat (first | exact Sb.nil | exact Sb.refl | exact Sb.app0 | apply Sb.keep | apply Sb.keepApp | apply Sb.cons | apply Sb.app))) (rd_move rfl) rfl (by kernel_rfl) ?_
              refine xm_take 6 (m' := 99) rfl (by kernel_rfl) (by first | exact Sb.refl | exact Sb.nil | (repeat (first | exact Sb.nil | exact Sb.refl | exact Sb.app0 | apply Sb.keep | apply Sb.keepApp | apply Sb.cons | apply Sb.app))) (rd_move rfl) rfl (by kernel_rfl) ?_
              refine xm_take 7 (m' := 227) rfl (by kernel_rfl) (by first | exact Sb.refl | exact Sb.nil | (repeat (first | exact Sb.nil | exact Sb.refl | exact Sb.app0 | apply Sb.keep | apply Sb.keepApp | apply Sb.cons | apply Sb.app))) (rd_indexAddr rfl rfl (by omega) (by omega)) rfl (by kernel_rfl) ?_
              refine xm_take 8 (m' := 483) rfl (by kernel_rfl) (by first | exact Sb.refl | exact Sb.nil | (repeat (first | exact Sb.nil | exact Sb.refl | exact Sb.app0 | apply Sb.keep | apply Sb.keepApp | apply Sb.cons | apply Sb.app))) (rd_fieldAddr rfl) rfl (by kernel_rfl) ?_
              refine xm_take 9 (m' := 995) rfl (by kernel_rfl) (by first | exact Sb.refl | exact Sb.nil | (repeat (first | exact Sb.nil | exact Sb.refl | exact Sb.app0 | apply Sb.keep | apply Sb.keepApp | apply Sb.cons | apply Sb.app))) (rd_fieldAddr rfl) rfl (by kernel_rfl) ?_
              rotate_left
              refine xc_exit ?_
              refine xq_then_exit ?_
              refine xq_then_exit ?_
              refine xq_block_hit ?_
              refine xq_seq ?_
              refine xc_region ?_
              refine xo_rd (rd_move rfl) rfl ?_
              refine xo_rd (rd_assign rfl) rfl ?_
              refine xo_nil ?_
              rotate_left
            · have hkn : k < x.ms.length := by omega
              obtain ⟨b1, o1, hp1, hc1⟩ := (hO.rs (W := W) (L := lo ++ (y.blks ++ l)) (by intro z hz; simp [hz])).row Mb.len (by decide) hkn
              subst hp1
              have ht : x.ms.take (k + 1) = x.ms.take k ++ [x.ms[k]] := by
                rw [List.take_add_one, List.getElem?_eq_getElem hkn]; rfl
              have hfl : ((x.ms.take k).filter (fun m => decide (m.id ≠ a.f1.id))).length ≤ 32 := by
                have h1 := List.length_filter_le (fun m : Mb => decide (m.id ≠ a.f1.id)) (x.ms.take k)
                rw [List.length_take] at h1
                omega
              focus
                refine xm_take 2 (m' := 999) rfl (by kernel_rfl) (by first | exact Sb.refl | exact Sb.nil | (repeat (first | exact Sb.nil | exact Sb.refl | exact Sb.app0 | apply Sb.keep | apply Sb.keepApp | apply Sb.cons | apply Sb.app))) (rd_indexAddr rfl rfl (by omega) (by omega)) rfl (by kernel_rfl) ?_
                refine xm_take 3 (m' := 1007) rfl (by kernel_rfl) (by first | exact Sb.refl | exact Sb.nil | (repeat (first | exact Sb.nil | exact Sb.refl | exact Sb.app0 | apply Sb.keep | apply Sb.keepApp | apply Sb.cons | apply Sb.app))) (rd_fieldAddr rfl) rfl (by kernel_rfl) ?_
                refine xm_take 4 (m' := 1023) rfl (by kernel_rfl) (by first | exact Sb.refl | exact Sb.nil | (repeat (first | exact Sb.nil | exact Sb.refl | exact Sb.app0 | apply Sb.keep | apply Sb.keepApp | apply Sb.cons | apply Sb.app))) (rd_load1 rfl (hc1 0 _ rfl)) rfl (by kernel_rfl) ?_
                refine xm_take 10 (m' := 2047) rfl (by kernel_rfl) (by first | exact Sb.refl | exact Sb.nil | (repeat (first | exact Sb.nil | exact Sb.refl | exact Sb.app0 | apply Sb.keep | apply Sb.keepApp | apply Sb.cons | apply Sb.app))) (rd_load1 rfl (hcA _ 1 _ rfl)) rfl (by kernel_rfl) ?_
                refine xm_take 11 (m' := 4095) rfl (by kernel_rfl) (by first | exact Sb.refl | exact Sb.nil | (repeat (first | exact Sb.nil | exact Sb.refl | exact Sb.app0 | apply Sb.keep | apply Sb.keepApp | apply Sb.cons | apply Sb.app))) (rd_neq rfl rfl) rfl (by kernel_rfl) ?_
                refine xm_done (by kernel_rfl) ?_
                refine xq_seq ?_
                refine xc_ndec rfl (fun hz1 => ?_) (fun hz1 => ?_)
                refine xc_region ?_
                refine xo_rd (rd_move rfl) rfl ?_
                refine xo_rd (rd_move rfl) rfl ?_
                refine xo_rd (rd_move rfl) rfl ?_
                refine xo_rd (rd_indexAddr rfl rfl (by omega) (by omega)) rfl ?_
                rotate_left
                refine xc_skip ?_
                refine xq_block ?_
                refine xq_seq ?_
                refine xc_region ?_
                refine xo_rd (rd_move rfl) rfl ?_
                refine xo_rd (rd_addn rfl rfl (by omega) (by omega)) rfl ?_
                refine xo_rd (rd_assign rfl) rfl ?_
                refine xo_nil ?_
                rotate_left
              · have hf1 : (x.ms.take (k + 1)).filter (fun m => decide (m.id ≠ a.f1.id)) = (x.ms.take k).filter (fun m => decide (m.id ≠ a.f1.id)) ++ [x.ms[k]] := by
                  rw [ht, List.filter_append, List.filter_cons_of_pos (by simpa using hz1), List.filter_nil]
                focus
                  refine xo_rd (rd_loadA (vs := x.ms[k].enc) rfl rfl hc1) rfl ?_
                  refine xo_ef rfl (ef_sliceA (vs := x.ms[k].enc) rfl rfl (by rw [Mb.len]; decide) (by rw [Mb.len]; decide) fun r121 => ?_)
                refine xo_ef rfl (ef_append [_] _ lo rfl rfl hOo rfl (Rs.fresh (List.Mem.head _)) rfl rfl (by decide) (by omega) (by omega) fun v3 lo' hO3 => ?_)
                refine xo_tail ?_
                focus
                  refine xo_rd (rd_assign rfl) rfl ?_
                  refine xo_nil ?_
                  refine xq_block ?_
                  refine xq_seq ?_
                  refine xc_region ?_
                  refine xo_rd (rd_move rfl) rfl ?_
                  refine xo_rd (rd_addn rfl rfl (by omega) (by omega)) rfl ?_
                  refine xo_rd (rd_assign rfl) rfl ?_
                  refine xo_nil ?_
                exact xq_roundI (k + 1, v3, lo') ⟨by dsimp only; omega, by dsimp only; rw [hf1, List.flatMap_append, List.length_append]; simpa using hO3⟩ (by dsimp only; omega) rfl (by repeat (first | exact keep_nil | refine keep_cons rfl ?_))
              · have hf1 : (x.ms.take (k + 1)).filter (fun m => decide (m.id ≠ a.f1.id)) = (x.ms.take k).filter (fun m => decide (m.id ≠ a.f1.id)) := by
                  rw [ht, List.filter_append, List.filter_cons_of_neg (by simpa using hz1), List.filter_nil, List.append_nil]
                skip
                exact xq_roundI (k + 1, v, lo) ⟨by dsimp only; omega, by dsimp only; rw [hf1]; exact hOo⟩ (by dsimp only; omega) rfl (by repeat (first | exact keep_nil | refine keep_cons rfl ?_))
            · have hkn : k = x.ms.length := by omega
              subst hkn
              skip
              refine xq_perm (L' := y.blks ++ (lo ++ l)) (by classical exact List.perm_iff_count.2 fun a => by simp only [List.append_eq, List.count_append, List.count_cons, List.count_nil, List.cons_append, List.nil_append, List.flatMap_append, List.flatMap_cons, List.flatMap_nil, List.append_nil]; omega) ?_
              refine xq_sub (L' := y.blks ++ lo) ((List.Sublist.refl _).append (List.sublist_append_left _ _)) ?_
              refine xq_joined (y, v, lo) ⟨hy, hym, ?_⟩ rfl (by repeat (first | exact keep_nil | refine keep_cons rfl ?_))
              dsimp only
              rw [List.take_length, leave_filter _ _ hxo.fit.ids, ← hys] at hOo
              exact hOo
        · refine xo_ef rfl (ef_call rfl (XF.mono (xf_join x hxo a.f1) ?_))
          rintro v L' ⟨rfl, y, hy, hyc, hym, hys, rfl⟩
          rw [← hyc]
          rw [hmo] at hym
          focus
            refine xo_rd (rd_eql rfl rfl) rfl ?_
            refine xo_nil ?_
            refine xq_seq ?_
            refine xc_dec rfl (fun hr1 => ?_) (fun hr1 => ?_)
            refine xc_region ?_
            refine xo_rd (rd_move rfl) rfl ?_
            refine xo_rd (rd_move rfl) rfl ?_
            refine xo_rd (rd_move rfl) rfl ?_
            refine xo_rd (rd_indexAddr rfl rfl (by omega) (by omega)) rfl ?_
            refine xo_rd (rd_fieldAddr rfl) rfl ?_
            rotate_left
            refine xc_skip ?_
            rotate_left
          · skip
            focus
              refine xo_rd (rd_loadA (vs := a.f1.enc) rfl rfl (hcM _)) rfl ?_
              refine xo_ef rfl (ef_sliceA (vs := a.f1.enc) rfl rfl (by rw [Mb.len]; decide) (by rw [Mb.len]; decide) fun r138 => ?_)
            refine xo_ef rfl (ef_append ((r138, .cells a.f1.enc.toArray 31 (0, 0)) :: y.blks) [] l (L := _ :: (y.blks ++ l)) rfl rfl hO (by simp) (Rs.fresh (List.Mem.head _)) rfl rfl (by decide) (by omega) (by omega) fun v3 lo' hO3 => ?_)
            refine xo_tail ?_
            focus
              refine xo_rd (rd_assign rfl) rfl ?_
              refine xo_nil ?_
            refine xq_joined (y, v3, lo') ⟨hy, hym, ?_⟩ (by simp) (by repeat (first | exact keep_nil | refine keep_cons rfl ?_))
            dsimp only
            have hJ : y.ms = x.ms ++ [a.f1] := by rw [hys]; unfold joinL; rw [if_pos hr1]
            rw [hJ, List.flatMap_append, List.length_append]; simpa using hO3
          · refine xq_joined (y, .slice pv x.ms.length cv, l) ⟨hy, hym, ?_⟩ rfl (by repeat (first | exact keep_nil | refine keep_cons rfl ?_))
            rw [hys]; unfold joinL; rw [if_neg hr1]; exact hO
      · rintro ⟨y, v', l'⟩ ⟨hy, hym, hO'⟩
        dsimp only at hy hym hO' ⊢
        focus
          refine xc_seq ?_
          refine xc_region ?_
          refine xo_rd (rd_move rfl) rfl ?_
        refine xo_ef rfl (ef_call rfl (XF.mono (xf_all y hy) ?_))
        rintro v L' ⟨pa, ka, la, rfl, hOa, hka, rfl⟩
        obtain ⟨p2, c2, rfl, hO', hc2⟩ := hO'.opn
        have hylm := hy.fit.len
        rw [hym] at hylm
        focus
          refine xo_rd (rd_assign rfl) rfl ?_
          refine xo_nil ?_
          refine xq_seq ?_
          refine xc_seq ?_
          refine xc_seq ?_
          refine xc_region ?_
          refine xo_rd (rd_move rfl) rfl ?_
          refine xo_rd (rd_len rfl) rfl ?_
          refine xo_rd (rd_move rfl) rfl ?_
          refine xo_rd (rd_len rfl) rfl ?_
          refine xo_rd (rd_neq rfl rfl) rfl ?_
          refine xo_rd (rd_move rfl) rfl ?_
          refine xo_ndec 147 rfl (fun h => absurd rfl h) (fun _ => ?_)
          refine xo_grd rfl rfl (rd_move rfl) rfl ?_
          refine xo_grd rfl rfl (rd_len rfl) rfl ?_
          refine xo_grd rfl rfl (rd_move rfl) rfl ?_
          refine xo_grd rfl rfl (rd_gtr rfl rfl) rfl ?_
          refine xo_rd (rd_pickf rfl rfl) rfl ?_
          refine xo_nil ?_
          refine xq_seq ?_
          refine xc_dec rfl (fun h2 => (by exfalso; omega)) (fun h2 => ?_)
          refine xc_skip ?_
          refine xq_seq ?_
          refine xc_seq ?_
          refine xc_region ?_
          refine xo_rd (rd_assign rfl) rfl ?_
          refine xo_nil ?_
          refine xq_seq ?_
          refine xc_block ?_
        refine xc_loopI (ι := Nat) (fun k => k ≤ y.ms.length) (fun k => y.ms.length - k) (fun _ => la ++ (y.blks ++ l')) (fun k => [(0, .int .i64 most), (1, .slice (some ⟨b0, o0, none⟩) n c), (5, .pointer (some ⟨y.c, 0, none⟩)), (7, .slice p2 y.ms.length c2), (8, .int .i64 i), (20, .slice pa y.ms.length ka), (21, .int .i64 k)]) 0 (Nat.zero_le _) rfl (by repeat (first | exact keep_nil | refine keep_cons rfl ?_)) ?_
        rintro k hk
        focus
          refine xc_seq ?_
          refine xc_seq ?_
          refine xc_region ?_
          refine xo_rd (rd_move rfl) rfl ?_
          refine xo_rd (rd_move rfl) rfl ?_
          refine xo_rd (rd_len rfl) rfl ?_
          refine xo_rd (rd_lss rfl rfl) rfl ?_
          refine xo_nil ?_
          refine xq_seq ?_
          refine xc_dec rfl (fun hk1 => ?_) (fun hk1 => ?_)
          refine xc_skip ?_
          refine xq_seq ?_
          refine xc_seq ?_
          refine xc_block ?_
          refine xc_seq ?_
          refine xc_region ?_
          refine xo_rd (rd_move rfl) rfl ?_
          refine xo_rd (rd_move rfl) rfl ?_
          refine xo_rd (rd_move rfl) rfl ?_
          rotate_left
          refine xc_exit ?_
          refine xq_then_exit ?_
          refine xq_then_exit ?_
          rotate_left
        · have hkn : k < y.ms.length := by omega
          have hmem : y.ms[k] ∈ y.ms := List.getElem_mem _
          have hright := hy.fit.right _ hmem
          have hs1 : getSrc y.ms y.ms[k].content = some y.ms[k] := getSrc_mem hy.fit.src hmem (by simp [Mb.src])
          have hs2 : getSrc y.ms y.ms[k].camera = some y.ms[k] := getSrc_mem hy.fit.src hmem (by simp [Mb.src])
          have hne : decide (y.ms[k].content = y.ms[k].camera) = false := by
            unfold Mb.right at hright
            simp only [decide_eq_false_iff_not]
            exact fun e => hright (.inr (.inr (.inr e)))
          obtain ⟨b1, o1, hp1, hc1⟩ := (hOa.rs (W := W) (L := la ++ (y.blks ++ l')) (by intro z hz; simp [hz])).row Mb.len (by decide) hkn
          subst hp1
          obtain ⟨b2, o2, hp2, hc2⟩ := (hO'.rs (W := W) (L := la ++ (y.blks ++ l')) (by intro z hz; simp [hz])).row Mb.len (by decide) hkn
          subst hp2
          generalize y.ms[k] = m at *
          focus
            refine xo_rd (rd_indexAddr rfl rfl (by omega) (by omega)) rfl ?_
            refine xo_rd (rd_fieldAddr rfl) rfl ?_
            refine xo_rd (rd_load1 rfl (hc1 1 _ rfl)) rfl ?_
          refine xo_ef rfl (ef_call rfl (XF.mono (XF.seg la y.blks l' (xf_source_some y hy m.content m hs1)) ?_))
          rintro v L' ⟨rfl, rfl⟩
          refine xo_seg la y.blks l' ?_
          rw [show decide (m.content = m.content) = true from by simp]
          focus
            refine xo_rd (rd_move rfl) rfl ?_
            refine xo_rd (rd_extract rfl rfl) rfl ?_
            refine xo_rd (rd_extract rfl rfl) rfl ?_
            refine xo_rd (rd_extract rfl rfl) rfl ?_
            refine xo_ef rfl (ef_alloc fun r22 => ?_)
            refine xo_ef rfl (ef_storeB [] _ rfl rfl (by first | rfl | assumption) rfl rfl rfl ?_)
            refine xo_rd (rd_assign rfl) rfl ?_
            refine xo_rd (rd_assign rfl) rfl ?_
            refine xo_nil ?_
            refine xq_seq ?_
            refine xc_seq ?_
            refine xc_region ?_
            refine xo_rd (rd_move rfl) rfl ?_
            refine xo_rd (rd_move rfl) rfl ?_
            refine xo_rd (rd_move rfl) rfl ?_
            refine xo_rd (rd_indexAddr rfl rfl (by omega) (by omega)) rfl ?_
            refine xo_rd (rd_fieldAddr rfl) rfl ?_
            refine xo_rd (rd_load1 rfl (hc1 2 _ rfl).skip) rfl ?_
          refine xo_ef rfl (ef_call rfl (XF.mono (XF.seg (_ :: la) y.blks l' (xf_source_some y hy m.camera m hs2)) ?_))
          rintro v L' ⟨rfl, rfl⟩
          refine xo_seg (_ :: la) y.blks l' ?_
          rw [hne]
          focus
            refine xo_rd (rd_move rfl) rfl ?_
            refine xo_rd (rd_extract rfl rfl) rfl ?_
            refine xo_rd (rd_extract rfl rfl) rfl ?_
            refine xo_rd (rd_extract rfl rfl) rfl ?_
            refine xo_ef rfl (ef_alloc fun r25 => ?_)
            refine xo_ef rfl (ef_storeB [] _ rfl rfl (by first | rfl | assumption) rfl rfl rfl ?_)
            refine xo_rd (rd_assign rfl) rfl ?_
            refine xo_rd (rd_assign rfl) rfl ?_
            refine xo_nil ?_
            refine xq_seq ?_
            refine xc_seq ?_
            refine xc_drawML [0, 0, 3, 4, 0, 0, 48, 64, 136, 256, 512, 1536, 2560, 4608, 8192, 24576, 40960, 73728, 131072, 131072, 131072, 1703936, 2228224, 4587520, 8519680, 16908288, 33554432, 33554432, 33554432, 436207616, 570425344, 1174405120, 2181038080, 4328521728, 8589934592, 25769803776, 42949672960, 77309411328, 137438953472, 412316860416] [0, 0, 3, 4, 0, 0, 48, 64, 136, 256, 512, 1536, 2560, 4608, 8192, 24576, 40960, 73728, 131072, 131072, 131072, 1703936, 2228224, 4587520, 8519680, 16908288, 33554432, 33554432, 33554432, 436207616, 570425344, 1174405120, 2181038080, 4328521728, 8589934592, 25769803776, 42949672960, 77309411328, 137438953472, 412316860416] (by kernel_rfl) (by kernel_rfl) (by kernel_rfl) ?_
            refine xm_take 0 (m' := 1) rfl (by kernel_rfl) (by first | exact Sb.refl | exact Sb.nil | (repeat (first | exact Sb.nil | exact Sb.refl | exact Sb.app0 | apply Sb.keep | apply Sb.keepApp | apply Sb.cons | apply Sb.app))) (rd_move rfl) rfl (by kernel_rfl) ?_
            refine xm_take 1 (m' := 3) rfl (by kernel_rfl) (by first | exact Sb.refl | exact Sb.nil | (repeat (first | exact Sb.nil | exact Sb.refl | exact Sb.app0 | apply Sb.keep | apply Sb.keepApp | apply Sb.cons | apply Sb.app))) (rd_move rfl) rfl (by kernel_rfl) ?_
            refine xm_take 2 (m' := 7) rfl (by kernel_rfl) (by first | exact Sb.refl | exact Sb.nil | (repeat (first | exact Sb.nil | exact Sb.refl | exact Sb.app0 | apply Sb.keep | apply Sb.keepApp | apply Sb.cons | apply Sb.app))) (rd_indexAddr rfl rfl (by omega) (by omega)) rfl (by kernel_rfl) ?_
            refine xm_take 3 (m' := 15) rfl (by kernel_rfl) (by first | exact Sb.refl | exact Sb.nil | (repeat (first | exact Sb.nil | exact Sb.refl | exact Sb.app0 | apply Sb.keep | apply Sb.keepApp | apply Sb.cons | apply Sb.app))) (rd_loadA (vs := m.enc) rfl rfl (fun j u hj => (hc1 j u hj).skip.skip)) rfl (by kernel_rfl) ?_
            refine xm_take 4 (m' := 31) rfl (by kernel_rfl) (by first | exact Sb.refl | exact Sb.nil | (repeat (first | exact Sb.nil | exact Sb.refl | exact Sb.app0 | apply Sb.keep | apply Sb.keepApp | apply Sb.cons | apply Sb.app))) (rd_move rfl) rfl (by kernel_rfl) ?_
            refine xm_take 5 (m' := 63) rfl (by kernel_rfl) (by first | exact Sb.refl | exact Sb.nil | (repeat (first | exact Sb.nil | exact Sb.refl | exact Sb.app0 | apply Sb.keep | apply Sb.keepApp | apply Sb.cons | apply Sb.app))) (rd_move rfl) rfl (by kernel_rfl) ?_
            refine xm_take 6 (m' := 127) rfl (by kernel_rfl) (by first | exact Sb.refl | exact Sb.nil | (repeat (first | exact Sb.nil | exact Sb.refl | exact Sb.app0 | apply Sb.keep | apply Sb.keepApp | apply Sb.cons | apply Sb.app))) (rd_indexAddr rfl rfl (by omega) (by omega)) rfl (by kernel_rfl) ?_
            refine xm_take 7 (m' := 255) rfl (by kernel_rfl) (by first | exact Sb.refl | exact Sb.nil | (repeat (first | exact Sb.nil | exact Sb.refl | exact Sb.app0 | apply Sb.keep | apply Sb.keepApp | apply Sb.cons | apply Sb.app))) (rd_loadA (vs := m.enc) rfl rfl (fun j u hj => (hc2 j u hj).skip.skip)) rfl (by kernel_rfl) ?_
            refine xm_take 8 (m' := 511) rfl (by kernel_rfl) (by first | exact Sb.refl | exact Sb.nil | (repeat (first | exact Sb.nil | exact Sb.refl | exact Sb.app0 | apply Sb.keep | apply Sb.keepApp | apply Sb.cons | apply Sb.app))) (rd_neSame31 (a := m) rfl rfl) rfl (by kernel_rfl) ?_
            refine xm_take 9 (m' := 1023) rfl (by kernel_rfl) (by first | exact Sb.refl | exact Sb.nil | (repeat (first | exact Sb.nil | exact Sb.refl | exact Sb.app0 | apply Sb.keep | apply Sb.keepApp | apply Sb.cons | apply Sb.app))) (rd_move rfl) rfl (by kernel_rfl) ?_
            refine xm_gtake 10 (m' := 2047) rfl (by kernel_rfl) (by first | exact Sb.refl | exact Sb.nil | (repeat (first | exact Sb.nil | exact Sb.refl | exact Sb.app0 | apply Sb.keep | apply Sb.keepApp | apply Sb.cons | apply Sb.app))) rfl rfl (rd_move rfl) rfl (by kernel_rfl) ?_
            refine xm_gtake 11 (m' := 4095) rfl (by kernel_rfl) (by first | exact Sb.refl | exact Sb.nil | (repeat (first | exact Sb.nil | exact Sb.refl | exact Sb.app0 | apply Sb.keep | apply Sb.keepApp | apply Sb.cons | apply Sb.app))) rfl rfl (rd_not rfl) rfl (by kernel_rfl) ?_
            refine xm_take 12 (m' := 8191) rfl (by kernel_rfl) (by first | exact Sb.refl | exact Sb.nil | (repeat (first | exact Sb.nil | exact Sb.refl | exact Sb.app0 | apply Sb.keep | apply Sb.keepApp | apply Sb.cons | apply Sb.app))) (rd_pickf rfl rfl) rfl (by kernel_rfl) ?_
            refine xm_take 13 (m' := 16383) rfl (by kernel_rfl) (by first | exact Sb.refl | exact Sb.nil | (repeat (first | exact Sb.nil | exact Sb.refl | exact Sb.app0 | apply Sb.keep | apply Sb.keepApp | apply Sb.cons | apply Sb.app))) (rd_move rfl) rfl (by kernel_rfl) ?_
            refine xm_gtake 14 (m' := 32767) rfl (by kernel_rfl) (by first | exact Sb.refl | exact Sb.nil | (repeat (first | exact Sb.nil | exact Sb.refl | exact Sb.app0 | apply Sb.keep | apply Sb.keepApp | apply Sb.cons | apply Sb.app))) rfl rfl (rd_move rfl) rfl (by kernel_rfl) ?_
            refine xm_gtake 15 (m' := 65535) rfl (by kernel_rfl) (by first | exact Sb.refl | exact Sb.nil | (repeat (first | exact Sb.nil | exact Sb.refl | exact Sb.app0 | apply Sb.keep | apply Sb.keepApp | apply Sb.cons | apply Sb.app))) rfl rfl (rd_not rfl) rfl (by kernel_rfl) ?_
            refine xm_take 16 (m' := 131071) rfl (by kernel_rfl) (by first | exact Sb.refl | exact Sb.nil | (repeat (first | exact Sb.nil | exact Sb.refl | exact Sb.app0 | apply Sb.keep | apply Sb.keepApp | apply Sb.cons | apply Sb.app))) (rd_pickf rfl rfl) rfl (by kernel_rfl) ?_
            refine xm_take 17 (m' := 262143) rfl (by kernel_rfl) (by first | exact Sb.refl | exact Sb.nil | (repeat (first | exact Sb.nil | exact Sb.refl | exact Sb.app0 | apply Sb.keep | apply Sb.keepApp | apply Sb.cons | apply Sb.app))) (rd_move rfl) rfl (by kernel_rfl) ?_
            refine xm_gtake 18 (m' := 524287) rfl (by kernel_rfl) (by first | exact Sb.refl | exact Sb.nil | (repeat (first | exact Sb.nil | exact Sb.refl | exact Sb.app0 | apply Sb.keep | apply Sb.keepApp | apply Sb.cons | apply Sb.app))) rfl rfl (rd_loadB rfl Kn.o1 (by rfl)) rfl (by kernel_rfl) ?_
            refine xm_gtake 19 (m' := 1048575) rfl (by kernel_rfl) (by first | exact Sb.refl | exact Sb.nil | (repeat (first | exact Sb.nil | exact Sb.refl | exact Sb.app0 | apply Sb.keep | apply Sb.keepApp | apply Sb.cons | apply Sb.app))) rfl rfl (rd_move rfl) rfl (by kernel_rfl) ?_
            refine xm_gtake 20 (m' := 2097151) rfl (by kernel_rfl) (by first | exact Sb.refl | exact Sb.nil | (repeat (first | exact Sb.nil | exact Sb.refl | exact Sb.app0 | apply Sb.keep | apply Sb.keepApp | apply Sb.cons | apply Sb.app))) rfl rfl (rd_move rfl) rfl (by kernel_rfl) ?_
            refine xm_gtake 21 (m' := 4194303) rfl (by kernel_rfl) (by first | exact Sb.refl | exact Sb.nil | (repeat (first | exact Sb.nil | exact Sb.refl | exact Sb.app0 | apply Sb.keep | apply Sb.keepApp | apply Sb.cons | apply Sb.app))) rfl rfl (rd_indexAddr rfl rfl (by omega) (by omega)) rfl (by kernel_rfl) ?_
            refine xm_gtake 22 (m' := 8388607) rfl (by kernel_rfl) (by first | exact Sb.refl | exact Sb.nil | (repeat (first | exact Sb.nil | exact Sb.refl | exact Sb.app0 | apply Sb.keep | apply Sb.keepApp | apply Sb.cons | apply Sb.app))) rfl rfl (rd_loadA (vs := m.enc) rfl rfl (fun j u hj => (hc1 j u hj).skip.skip)) rfl (by kernel_rfl) ?_
            refine xm_gtake 23 (m' := 16777215) rfl (by kernel_rfl) (by first | exact Sb.refl | exact Sb.nil | (repeat (first | exact Sb.nil | exact Sb.refl | exact Sb.app0 | apply Sb.keep | apply Sb.keepApp | apply Sb.cons | apply Sb.app))) rfl rfl (rd_neSame31 (a := m) rfl rfl) rfl (by kernel_rfl) ?_
            refine xm_take 24 (m' := 33554431) rfl (by kernel_rfl) (by first | exact Sb.refl | exact Sb.nil | (repeat (first | exact Sb.nil | exact Sb.refl | exact Sb.app0 | apply Sb.keep | apply Sb.keepApp | apply Sb.cons | apply Sb.app))) (rd_pickf rfl rfl) rfl (by kernel_rfl) ?_
            refine xm_take 25 (m' := 67108863) rfl (by kernel_rfl) (by first | exact Sb.refl | exact Sb.nil | (repeat (first | exact Sb.nil | exact Sb.refl | exact Sb.app0 | apply Sb.keep | apply Sb.keepApp | apply Sb.cons | apply Sb.app))) (rd_move rfl) rfl (by kernel_rfl) ?_
            refine xm_gtake 26 (m' := 134217727) rfl (by kernel_rfl) (by first | exact Sb.refl | exact Sb.nil | (repeat (first | exact Sb.nil | exact Sb.refl | exact Sb.app0 | apply Sb.keep | apply Sb.keepApp | apply Sb.cons | apply Sb.app))) rfl rfl (rd_loadB rfl Kn.o0 (by rfl)) rfl (by kernel_rfl) ?_
            refine xm_gtake 27 (m' := 268435455) rfl (by kernel_rfl) (by first | exact Sb.refl | exact Sb.nil | (repeat (first | exact Sb.nil | exact Sb.refl | exact Sb.app0 | apply Sb.keep | apply Sb.keepApp | apply Sb.cons | apply Sb.app))) rfl rfl (rd_move rfl) rfl (by kernel_rfl) ?_
            refine xm_gtake 28 (m' := 536870911) rfl (by kernel_rfl) (by first | exact Sb.refl | exact Sb.nil | (repeat (first | exact Sb.nil | exact Sb.refl | exact Sb.app0 | apply Sb.keep | apply Sb.keepApp | apply Sb.cons | apply Sb.app))) rfl rfl (rd_move rfl) rfl (by kernel_rfl) ?_
            refine xm_gtake 29 (m' := 1073741823) rfl (by kernel_rfl) (by first | exact Sb.refl | exact Sb.nil | (repeat (first | exact Sb.nil | exact Sb.refl | exact Sb.app0 | apply Sb.keep | apply Sb.keepApp | apply Sb.cons | apply Sb.app))) rfl rfl (rd_indexAddr rfl rfl (by omega) (by omega)) rfl (by kernel_rfl) ?_
            refine xm_gtake 30 (m' := 2147483647) rfl (by kernel_rfl) (by first | exact Sb.refl | exact Sb.nil | (repeat (first | exact Sb.nil | exact Sb.refl | exact Sb.app0 | apply Sb.keep | apply Sb.keepApp | apply Sb.cons | apply Sb.app))) rfl rfl (rd_loadA (vs := m.enc) rfl rfl (fun j u hj => (hc1 j u hj).skip.skip)) rfl (by kernel_rfl) ?_
            refine xm_gtake 31 (m' := 4294967295) rfl (by kernel_rfl) (by first | exact Sb.refl | exact Sb.nil | (repeat (first | exact Sb.nil | exact Sb.refl | exact Sb.app0 | apply Sb.keep | apply Sb.keepApp | apply Sb.cons | apply Sb.app))) rfl rfl (rd_neSame31 (a := m) rfl rfl) rfl (by kernel_rfl) ?_
            refine xm_take 32 (m' := 8589934591) rfl (by kernel_rfl) (by first | exact Sb.refl | exact Sb.nil | (repeat (first | exact Sb.nil | exact Sb.refl | exact Sb.app0 | apply Sb.keep | apply Sb.keepApp | apply Sb.cons | apply Sb.app))) (rd_pickf rfl rfl) rfl (by kernel_rfl) ?_
            refine xm_take 33 (m' := 17179869183) rfl (by kernel_rfl) (by first | exact Sb.refl | exact Sb.nil | (repeat (first | exact Sb.nil | exact Sb.refl | exact Sb.app0 | apply Sb.keep | apply Sb.keepApp | apply Sb.cons | apply Sb.app))) (rd_move rfl) rfl (by kernel_rfl) ?_
            refine xm_gtake 34 (m' := 34359738367) rfl (by kernel_rfl) (by first | exact Sb.refl | exact Sb.nil | (repeat (first | exact Sb.nil | exact Sb.refl | exact Sb.app0 | apply Sb.keep | apply Sb.keepApp | apply Sb.cons | apply Sb.app))) rfl rfl (rd_move rfl) rfl (by kernel_rfl) ?_
            refine xm_gtake 35 (m' := 68719476735) rfl (by kernel_rfl) (by first | exact Sb.refl | exact Sb.nil | (repeat (first | exact Sb.nil | exact Sb.refl | exact Sb.app0 | apply Sb.keep | apply Sb.keepApp | apply Sb.cons | apply Sb.app))) rfl rfl (rd_not rfl) rfl (by kernel_rfl) ?_
            refine xm_take 36 (m' := 137438953471) rfl (by kernel_rfl) (by first | exact Sb.refl | exact Sb.nil | (repeat (first | exact Sb.nil | exact Sb.refl | exact Sb.app0 | apply Sb.keep | apply Sb.keepApp | apply Sb.cons | apply Sb.app))) (rd_pickf rfl rfl) rfl (by kernel_rfl) ?_
            refine xm_take 37 (m' := 274877906943) rfl (by kernel_rfl) (by first | exact Sb.refl | exact Sb.nil | (repeat (first | exact Sb.nil | exact Sb.refl | exact Sb.app0 | apply Sb.keep | apply Sb.keepApp | apply Sb.cons | apply Sb.app))) (rd_move rfl) rfl (by kernel_rfl) ?_
            refine xm_gtake 38 (m' := 549755813887) rfl (by kernel_rfl) (by first | exact Sb.refl | exact Sb.nil | (repeat (first | exact Sb.nil | exact Sb.refl | exact Sb.app0 | apply Sb.keep | apply Sb.keepApp | apply Sb.cons | apply Sb.app))) rfl rfl (rd_move rfl) rfl (by kernel_rfl) ?_
            refine xm_take 39 (m' := 1099511627775) rfl (by kernel_rfl) (by first | exact Sb.refl | exact Sb.nil | (repeat (first | exact Sb.nil | exact Sb.refl | exact Sb.app0 | apply Sb.keep | apply Sb.keepApp | apply Sb.cons | apply Sb.app))) (rd_pickf rfl rfl) rfl (by kernel_rfl) ?_
            refine xm_done (by kernel_rfl) ?_
            refine xq_seq ?_
            refine xc_condf rfl ?_
            refine xc_skip ?_
            refine xq_block ?_
            refine xq_seq ?_
            refine xc_region ?_
            refine xo_rd (rd_move rfl) rfl ?_
            refine xo_rd (rd_addn rfl rfl (by omega) (by omega)) rfl ?_
            refine xo_rd (rd_assign rfl) rfl ?_
            refine xo_nil ?_
          refine xq_sub (L' := la ++ (y.blks ++ l')) ((List.sublist_cons_self _ _).trans (List.sublist_cons_self _ _)) ?_
          exact xq_roundI (k + 1) (by omega) (by omega) rfl (by repeat (first | exact keep_nil | refine keep_cons rfl ?_))
        · focus
            refine xq_block_hit ?_
            refine xq_block ?_
            refine xq_seq ?_
            refine xc_region ?_
            refine xo_rd (rd_move rfl) rfl ?_
            refine xo_rd (rd_addn rfl rfl (by omega) (by omega)) rfl ?_
            refine xo_rd (rd_assign rfl) rfl ?_
            refine xo_nil ?_
          refine xq_sb (M := y.blks ++ l') (by first | exact Sb.refl | exact Sb.nil | (repeat (first | exact Sb.nil | exact Sb.refl | exact Sb.app0 | apply Sb.keep | apply Sb.keepApp | apply Sb.cons | apply Sb.app))) ?_
          exact xq_roundI (⟨i + 1, y, .slice p2 y.ms.length c2, l'⟩ : SrS) ⟨by dsimp only; omega, hy, hym, hO'⟩ (by dsimp only; omega) rfl (by repeat (first | exact keep_nil | refine keep_cons rfl ?_))
  · skip
    focus
      refine xc_seq ?_
      refine xc_region ?_
      refine xo_rd (rd_assign rfl) rfl ?_
      refine xo_nil ?_
      refine xq_seq ?_
      refine xc_seq ?_
      refine xc_region ?_
      refine xo_rd (rd_move rfl) rfl ?_
      refine xo_ef rfl (ef_call rfl (XF.mono (xf_new_bad most (by omega)) ?_))
      rintro v L' ⟨rfl, rfl⟩
      refine xo_rd (rd_move rfl) rfl ?_
      refine xo_rd (rd_extract rfl rfl) rfl ?_
      refine xo_rd (rd_extract rfl rfl) rfl ?_
      refine xo_rd (rd_assign rfl) rfl ?_
      refine xo_rd (rd_assign rfl) rfl ?_
      refine xo_nil ?_
      refine xq_seq ?_
      refine xc_seq ?_
      refine xc_seq ?_
      refine xc_region ?_
      refine xo_rd (rd_move rfl) rfl ?_
      refine xo_rd (rd_neq rfl rfl) rfl ?_
      refine xo_rd (rd_move rfl) rfl ?_
      refine xo_gskip rfl rfl rfl rfl ?_
      refine xo_gskip rfl rfl rfl rfl ?_
      refine xo_gskip rfl rfl rfl rfl ?_
      refine xo_rd (rd_pickt rfl rfl) rfl ?_
      refine xo_nil ?_
      refine xq_seq ?_
      refine xc_condt rfl ?_
      refine xc_seq ?_
      refine xc_region ?_
      refine xo_ef rfl (ef_call rfl (XF.mono (xf_works) ?_))
      rintro v L' ⟨rfl, rfl⟩
      refine xo_rd (rd_assign rfl) rfl ?_
      refine xo_nil ?_
      refine xq_seq ?_
      refine xc_ret ?_
      refine xq_then_ret ?_
      exact xq_ret1 (.inl rfl) Try.results3 rfl (rfl)
end Go.Proofs.Ytginfcoaaioaeaa.X
