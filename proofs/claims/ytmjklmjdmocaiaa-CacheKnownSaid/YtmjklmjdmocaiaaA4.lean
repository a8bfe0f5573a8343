/-
  The cache's Put, by a walk of my own.
-/
import Derived.Test.YtmjklmjdmocaiaaA3
namespace Go.Proofs.Ytmjklmjdmocaiaa.X
open Go Go.RowKit
set_option linter.unusedVariables false
set_option linter.unusedSimpArgs false
theorem erase_nodup (ps : List Pk) (n : Int) (h : (ps.map Pk.n).Nodup) : n ∉ (ps.eraseP (fun q => q.n == n)).map Pk.n := by
  induction ps with
  | nil => simp
  | cons p r ih =>
    rw [List.map_cons, List.nodup_cons] at h
    rw [List.eraseP_cons]
    by_cases hp : p.n = n
    · subst hp; simpa using h.1
    · have : (p.n == n) = false := by simpa using hp
      rw [this]
      simp only [cond_false, List.map_cons, List.mem_cons, not_or]
      exact ⟨fun e => hp e.symm, ih h.2⟩
theorem ptr_snoc (ps : List Pk) (p : Pk) (h : p.n ∉ ps.map Pk.n) : mupd (ptrAt ps) p.n (some (.pointer (some ⟨p.b, 0, none⟩))) = ptrAt (ps ++ [p]) := by
  funext m
  unfold mupd ptrAt
  rw [List.find?_append]
  by_cases hm : m = p.n
  · subst hm
    rw [if_pos rfl]
    have : ps.find? (fun q => q.n == p.n) = none := by
      rw [List.find?_eq_none]
      intro q hq he
      exact h (List.mem_map.2 ⟨q, hq, by simpa using he⟩)
    simp [this]
  · rw [if_neg hm]
    have : ¬ p.n = m := fun e => hm e.symm
    simp [this]
theorem ptr_isSome (ps : List Pk) (n : Int) : (ptrAt ps n).isSome = true ↔ n ∈ ps.map Pk.n := by
  unfold ptrAt
  rw [Option.isSome_map, List.find?_isSome, List.mem_map]
  simp
theorem ix_erase (ps : List Pk) (n : Int) : (ixOf (ps.map Pk.n) n = -1 ∧ ps.eraseP (fun q => q.n == n) = ps) ∨ ∃ i, i < ps.length ∧ ixOf (ps.map Pk.n) n = i ∧ ps.eraseP (fun q => q.n == n) = ps.eraseIdx i := by
  rw [List.eraseP_eq_eraseIdx]
  unfold ixOf
  rw [List.findIdx?_map]
  have e : (fun x : Int => x == n) ∘ Pk.n = fun q : Pk => q.n == n := rfl
  rw [e]
  cases h : ps.findIdx? (fun q => q.n == n) with
  | none => exact .inl ⟨rfl, rfl⟩
  | some i => exact .inr ⟨i, (List.findIdx?_eq_some_iff_getElem.1 h).1, rfl, rfl⟩
theorem map_eraseP (ps : List Pk) (n : Int) : (ps.eraseP (fun q => q.n == n)).map Pk.pp = (ps.map Pk.pp).eraseP (fun q => q.n == n) := by
  rw [List.eraseP_map]; rfl

theorem Ca.snoc (size hold : Int) (ps : List Pk) (c : Nat) (q' : Option Addr) (c' : Nat) (l' : List Blk) (mb : Nat) (o' : Obj) (nw : Pk) (hO : SlO 1 30 (.slice q' (ps.length + 1) c') (ps.length + 1) (ints .u16 (ps.map Pk.n) ++ [.int .u16 nw.n]) l') (hnn : nw.n ∉ ps.map Pk.n)
    (hnod : (ps.map Pk.n).Nodup) (hpk : ∀ p, p ∈ ps → p.Is) (ho : MpIs .u16 o' (mupd (ptrAt ps) nw.n (some (.pointer (some ⟨nw.b, 0, none⟩)))) (if (ptrAt ps nw.n).isSome = true then ps.length else ps.length + 1)) (hnw : nw.Is) (hlt : ps.length < 1999)
    (hsz : 1 ≤ size ∧ size ≤ 1024) (hh0 : 0 ≤ hold ∧ hold ≤ 18446744073709551615) :
    ∃ y2 : Ca, y2.Ok ∧ y2.c = c ∧ y2.ps = ps ++ [nw] ∧ y2.size = size ∧ y2.hold = hold ∧ ∀ L, ((nw.b, .cells nw.cells.toArray 67 (0, 0)) :: (c, .cells [.int .i64 size, .int .u64 hold, .slice q' (ps.length + 1) c', .map (some mb)].toArray 62 (0, 0)) :: (mb, o') :: (nw.l ++ (l' ++ (ps.flatMap Pk.blks ++ L)))).Perm (y2.blks ++ L) := by
  have hl2 : (ps ++ [nw]).length = ps.length + 1 := by simp
  refine ⟨⟨size, hold, ps ++ [nw], c, .slice q' (ps.length + 1) c', l', mb, o'⟩, ⟨?_, ?_, ?_, ?_, ?_, hsz, hh0⟩, rfl, rfl, rfl, rfl, fun L => ?_⟩
  · dsimp only; rw [hl2, List.map_append, ints_app]; exact hO
  · dsimp only; rw [hl2, ← ptr_snoc ps nw hnn]
    have hf : ¬ (ptrAt ps nw.n).isSome = true := by rw [ptr_isSome]; exact hnn
    rw [if_neg hf] at ho
    exact ho
  · dsimp only; rw [List.map_append]
    exact List.nodup_append.2 ⟨hnod, by simp, by
      intro a ha b hb e
      simp only [List.map_cons, List.map_nil, List.mem_singleton] at hb
      subst hb; subst e; exact hnn ha⟩
  · intro z hz
    rcases List.mem_append.1 hz with hz | hz
    · exact hpk z hz
    · rw [List.mem_singleton] at hz
      subst hz; exact hnw
  · dsimp only; rw [hl2]; omega
  · rw [Ca.blks_app]
    dsimp only [Ca.cells]
    have hb1 : nw.blks = (nw.b, .cells nw.cells.toArray 67 (0, 0)) :: nw.l := rfl
    rw [List.flatMap_append, List.flatMap_cons, List.flatMap_nil, hb1]
    exact (by classical exact List.perm_iff_count.2 fun a => by simp only [List.append_eq, List.count_append, List.count_cons, List.count_nil, List.cons_append, List.nil_append, List.flatMap_append, List.flatMap_cons, List.flatMap_nil, List.append_nil]; omega)

set_option maxHeartbeats 4000000 in
theorem xf_put {W : World} {L : List Blk} (x : Ca) (hx : x.Ok) (hxl : x.ps.length < 1999) (n : Int) (p : Option Addr) (m k : Nat) (bs : List Int) (hb : bs.length = m) (hr : Rs W L p (ints .u8 bs)) (hm : m ≤ 1000) :
    XF Try.prog W 12 #[.pointer (some ⟨x.c, 0, none⟩), .int .u16 n, .slice p m k] (x.blks ++ L) (fun v L' => v = .tuple #[] ∧ ∃ y : Ca, y.Ok ∧ y.c = x.c ∧ y.st = x.st.put n bs ∧ L' = y.blks ++ L) := by
  refine xf_enter (args := [_, _, _]) Try.func12 rfl Try.ntmps12 rfl ?_
  focus
    refine xc_seq ?_
    refine xc_seq ?_
    refine xc_region ?_
    refine xo_rd (rd_move rfl) rfl ?_
    refine xo_rd (rd_eqnil rfl) rfl ?_
    refine xo_nil ?_
    refine xq_seq ?_
    refine xc_condf rfl ?_
    refine xc_skip ?_
    refine xq_seq ?_
  refine xc_join (ι := Ca) (fun y => y.Ok ∧ y.c = x.c ∧ y.size = x.size ∧ y.hold = x.hold ∧ y.ps = x.ps.eraseP (fun q => q.n == n)) (fun y => y.blks ++ L) (fun y => [(0, .pointer (some ⟨x.c, 0, none⟩)), (1, .int .u16 n), (2, .slice p m k)]) ?_ ?_
  · rw [Ca.blks_app]
    obtain ⟨size, hold, ps, c, nv, nl, mb, mo⟩ := x
    have hx' := hx
    obtain ⟨hO, hmp, hnod, hpk, hsm, hsz, hh0⟩ := hx
    dsimp only [Ca.cells] at *
    obtain ⟨q, cc, rfl, hO, hcc⟩ := hO.opn
    rcases ix_erase ps n with ⟨he, hp⟩ | ⟨i, hi, he, hp⟩
    · have e : ¬ 0 ≤ ixOf (ps.map Pk.n) n := by omega
      focus
        refine xc_seq ?_
        refine xc_region ?_
        refine xo_rd (rd_move rfl) rfl ?_
        refine xo_rd (rd_nilCheck rfl) rfl ?_
        refine xo_rd (rd_fieldAddr rfl) rfl ?_
        refine xo_rd (rd_load1 rfl (Cl.o0 rfl)) rfl ?_
        refine xo_rd (rd_move rfl) rfl ?_
        refine xo_ef rfl (ef_call rfl (XF.mono (xf_index _ _ _ _ _ (by simp) (hO.rs fun _ hq => List.mem_cons_of_mem _ (List.mem_cons_of_mem _ (List.mem_append_left _ hq))) (by omega)) ?_))
        rintro v L' ⟨rfl, rfl⟩
        refine xo_rd (rd_assign rfl) rfl ?_
        refine xo_nil ?_
        refine xq_seq ?_
        refine xc_seq ?_
        refine xc_region ?_
        refine xo_rd (rd_move rfl) rfl ?_
        refine xo_rd (rd_geq rfl rfl) rfl ?_
        refine xo_nil ?_
        refine xq_seq ?_
        refine xc_dec rfl (fun e1 => (by exfalso; omega)) (fun e1 => ?_)
        refine xc_skip ?_
      refine xq_joined (⟨size, hold, ps, c, _, nl, mb, mo⟩ : Ca) ⟨hx', rfl, rfl, rfl, hp.symm⟩ ?_ (by repeat (first | exact keep_nil | refine keep_cons rfl ?_))
      rw [Ca.blks_app]; rfl
    · have e : 0 ≤ ixOf (ps.map Pk.n) n := by omega
      focus
        refine xc_seq ?_
        refine xc_region ?_
        refine xo_rd (rd_move rfl) rfl ?_
        refine xo_rd (rd_nilCheck rfl) rfl ?_
        refine xo_rd (rd_fieldAddr rfl) rfl ?_
        refine xo_rd (rd_load1 rfl (Cl.o0 rfl)) rfl ?_
        refine xo_rd (rd_move rfl) rfl ?_
        refine xo_ef rfl (ef_call rfl (XF.mono (xf_index _ _ _ _ _ (by simp) (hO.rs fun _ hq => List.mem_cons_of_mem _ (List.mem_cons_of_mem _ (List.mem_append_left _ hq))) (by omega)) ?_))
        rintro v L' ⟨rfl, rfl⟩
        refine xo_rd (rd_assign rfl) rfl ?_
        refine xo_nil ?_
        refine xq_seq ?_
        refine xc_seq ?_
        refine xc_region ?_
        refine xo_rd (rd_move rfl) rfl ?_
        refine xo_rd (rd_geq rfl rfl) rfl ?_
        refine xo_nil ?_
        refine xq_seq ?_
        refine xc_dec rfl (fun e1 => ?_) (fun e1 => (by exfalso; omega))
        refine xc_region ?_
        refine xo_rd (rd_move rfl) rfl ?_
        refine xo_rd (rd_move rfl) rfl ?_
      rw [he]
      have hd := xf_drop (W := W) (L := L) (⟨size, hold, ps, c, _, nl, mb, mo⟩ : Ca) i hx' hi
      rw [Ca.blks_app] at hd
      refine xo_ef rfl (ef_call rfl (XF.mono hd ?_))
      rintro v L' ⟨rfl, nv', nl', mo', hy, rfl⟩
      focus
        refine xo_nil ?_
      exact xq_joined (⟨size, hold, ps.eraseIdx i, c, nv', nl', mb, mo'⟩ : Ca) ⟨hy, rfl, rfl, rfl, hp.symm⟩ rfl (by repeat (first | exact keep_nil | refine keep_cons rfl ?_))
  · rintro y ⟨hy, hyc, hys, hyh, hyp⟩
    rw [← hyc]
    rw [Ca.blks_app]
    obtain ⟨size, hold, ps, c, nv, nl, mb, mo⟩ := y
    have hy' := hy
    obtain ⟨hO, hmp, hnod, hpk, hsm, hsz, hh0⟩ := hy
    dsimp only [Ca.cells] at *
    subst hyp hys hyh
    generalize hps : x.ps.eraseP (fun q => q.n == n) = ps at *
    obtain ⟨q, cc, rfl, hO, hcc⟩ := hO.opn
    have hlt : x.ps.length < 1999 := hxl
    have hnn : n ∉ ps.map Pk.n := by rw [← hps]; exact erase_nodup _ _ hx.nod
    focus
      refine xc_seq ?_
      refine xc_region ?_
      refine xo_rd (rd_move rfl) rfl ?_
      refine xo_rd (rd_move rfl) rfl ?_
      refine xo_rd (rd_nilCheck rfl) rfl ?_
      refine xo_rd (rd_fieldAddr rfl) rfl ?_
      refine xo_rd (rd_load1 rfl (Cl.o0 rfl)) rfl ?_
      refine xo_rd (rd_move rfl) rfl ?_
      refine xo_ef rfl (ef_slice1 rfl rfl rfl fun r26 => ?_)
    refine xo_ef rfl (ef_append [_, _, _] _ nl rfl rfl hO rfl (Rs.fresh (List.Mem.head _)) rfl rfl (by decide) (by omega) (by omega) fun v' l' hO' => ?_)
    refine xo_tail ?_
    obtain ⟨q', c', rfl, hO', hc'⟩ := hO'.opn
    focus
      refine xo_rd (rd_nilCheck rfl) rfl ?_
      refine xo_rd (rd_fieldAddr rfl) rfl ?_
      refine xo_ef rfl (ef_store1 [] _ rfl rfl (by first | rfl | assumption) rfl rfl rfl ?_)
      refine xo_nil ?_
      refine xq_seq ?_
      refine xc_seq ?_
      refine xc_drawM [0, 1, 2, 4, 0, 0, 32, 64, 128, 511] [0, 1, 2, 4, 0, 0, 32, 64, 128, 511] [(c, .cells #[.int .i64 x.size, .int .u64 x.hold, .slice q' (ps.length + 1) c', .map (some mb)] 62 (0, 0))] (by kernel_rfl) (by kernel_rfl) (by kernel_rfl) ?_
      refine xm_take 0 (m' := 1) rfl (by kernel_rfl) (by first | exact Sb.refl | exact Sb.nil | (repeat (first | exact Sb.nil | exact Sb.refl | exact Sb.app0 | apply Sb.keep | apply Sb.keepApp | apply Sb.cons | apply Sb.app))) (rd_move rfl) rfl (by kernel_rfl) ?_
      refine xm_take 1 (m' := 3) rfl (by kernel_rfl) (by first | exact Sb.refl | exact Sb.nil | (repeat (first | exact Sb.nil | exact Sb.refl | exact Sb.app0 | apply Sb.keep | apply Sb.keepApp | apply Sb.cons | apply Sb.app))) (rd_nilCheck rfl) rfl (by kernel_rfl) ?_
      refine xm_take 2 (m' := 7) rfl (by kernel_rfl) (by first | exact Sb.refl | exact Sb.nil | (repeat (first | exact Sb.nil | exact Sb.refl | exact Sb.app0 | apply Sb.keep | apply Sb.keepApp | apply Sb.cons | apply Sb.app))) (rd_fieldAddr rfl) rfl (by kernel_rfl) ?_
      refine xm_take 3 (m' := 15) rfl (by kernel_rfl) (by first | exact Sb.refl | exact Sb.nil | (repeat (first | exact Sb.nil | exact Sb.refl | exact Sb.app0 | apply Sb.keep | apply Sb.keepApp | apply Sb.cons | apply Sb.app))) (rd_load1 rfl (Cl.o0 rfl)) rfl (by kernel_rfl) ?_
      refine xm_take 4 (m' := 31) rfl (by kernel_rfl) (by first | exact Sb.refl | exact Sb.nil | (repeat (first | exact Sb.nil | exact Sb.refl | exact Sb.app0 | apply Sb.keep | apply Sb.keepApp | apply Sb.cons | apply Sb.app))) (rd_move rfl) rfl (by kernel_rfl) ?_
      refine xm_take 5 (m' := 63) rfl (by kernel_rfl) (by first | exact Sb.refl | exact Sb.nil | (repeat (first | exact Sb.nil | exact Sb.refl | exact Sb.app0 | apply Sb.keep | apply Sb.keepApp | apply Sb.cons | apply Sb.app))) (rd_move rfl) rfl (by kernel_rfl) ?_
      refine xm_one 6 (m' := 127) rfl (by kernel_rfl) rfl (by kernel_rfl) (ef_call rfl (XF.mono (xf_cloneB _ _ _ _ (by rw [ints_len]; omega) (hr.mono (by intro z hz; simp [hz])) (ints_one _ _) (by omega)) ?_))
      rintro v L' ⟨qb, cb, lb, rfl, hqb, hcb, rfl⟩
      refine xmx_seg [_, _] lb _ ?_
      refine ⟨(by first | exact Sb.refl | exact Sb.nil | (repeat (first | exact Sb.nil | exact Sb.refl | exact Sb.app0 | apply Sb.keep | apply Sb.keepApp | apply Sb.cons | apply Sb.app))), ?_⟩
      refine xm_take 7 (m' := 255) rfl (by kernel_rfl) (by first | exact Sb.refl | exact Sb.nil | (repeat (first | exact Sb.nil | exact Sb.refl | exact Sb.app0 | apply Sb.keep | apply Sb.keepApp | apply Sb.cons | apply Sb.app))) (rd_build rfl rfl rfl) rfl (by kernel_rfl) ?_
      refine xm_one 8 (m' := 511) rfl (by kernel_rfl) rfl (by kernel_rfl) (ef_box rfl fun r38 => ?_)
      refine ⟨(by first | exact Sb.refl | exact Sb.nil | (repeat (first | exact Sb.nil | exact Sb.refl | exact Sb.app0 | apply Sb.keep | apply Sb.keepApp | apply Sb.cons | apply Sb.app))), ?_⟩
      refine xm_one 9 (m' := 1023) rfl (by kernel_rfl) rfl (by kernel_rfl) (ef_mapUpdate [_, _] _ (by assumption) rfl rfl rfl rfl fun o' ho' => ?_)
      refine ⟨(by first | exact Sb.refl | exact Sb.nil | (repeat (first | exact Sb.nil | exact Sb.refl | exact Sb.app0 | apply Sb.keep | apply Sb.keepApp | apply Sb.cons | apply Sb.app))), ?_⟩
      refine xm_done (by kernel_rfl) ?_
      refine xq_seq ?_
      refine xc_seq ?_
      refine xc_drawM [0, 1, 2, 4, 8, 0, 32, 64, 128, 272] [0, 1, 2, 4, 8, 0, 32, 64, 128, 272] [(c, .cells #[.int .i64 x.size, .int .u64 x.hold, .slice q' (ps.length + 1) c', .map (some mb)] 62 (0, 0))] (by kernel_rfl) (by kernel_rfl) (by kernel_rfl) ?_
      refine xm_take 0 (m' := 1) rfl (by kernel_rfl) (by first | exact Sb.refl | exact Sb.nil | (repeat (first | exact Sb.nil | exact Sb.refl | exact Sb.app0 | apply Sb.keep | apply Sb.keepApp | apply Sb.cons | apply Sb.app))) (rd_move rfl) rfl (by kernel_rfl) ?_
      refine xm_take 1 (m' := 3) rfl (by kernel_rfl) (by first | exact Sb.refl | exact Sb.nil | (repeat (first | exact Sb.nil | exact Sb.refl | exact Sb.app0 | apply Sb.keep | apply Sb.keepApp | apply Sb.cons | apply Sb.app))) (rd_nilCheck rfl) rfl (by kernel_rfl) ?_
      refine xm_take 2 (m' := 7) rfl (by kernel_rfl) (by first | exact Sb.refl | exact Sb.nil | (repeat (first | exact Sb.nil | exact Sb.refl | exact Sb.app0 | apply Sb.keep | apply Sb.keepApp | apply Sb.cons | apply Sb.app))) (rd_fieldAddr rfl) rfl (by kernel_rfl) ?_
      refine xm_take 3 (m' := 15) rfl (by kernel_rfl) (by first | exact Sb.refl | exact Sb.nil | (repeat (first | exact Sb.nil | exact Sb.refl | exact Sb.app0 | apply Sb.keep | apply Sb.keepApp | apply Sb.cons | apply Sb.app))) (rd_load1 rfl (Cl.o0 rfl)) rfl (by kernel_rfl) ?_
      refine xm_take 4 (m' := 31) rfl (by kernel_rfl) (by first | exact Sb.refl | exact Sb.nil | (repeat (first | exact Sb.nil | exact Sb.refl | exact Sb.app0 | apply Sb.keep | apply Sb.keepApp | apply Sb.cons | apply Sb.app))) (rd_len rfl) rfl (by kernel_rfl) ?_
      refine xm_take 5 (m' := 63) rfl (by kernel_rfl) (by first | exact Sb.refl | exact Sb.nil | (repeat (first | exact Sb.nil | exact Sb.refl | exact Sb.app0 | apply Sb.keep | apply Sb.keepApp | apply Sb.cons | apply Sb.app))) (rd_move rfl) rfl (by kernel_rfl) ?_
      refine xm_take 6 (m' := 127) rfl (by kernel_rfl) (by first | exact Sb.refl | exact Sb.nil | (repeat (first | exact Sb.nil | exact Sb.refl | exact Sb.app0 | apply Sb.keep | apply Sb.keepApp | apply Sb.cons | apply Sb.app))) (rd_nilCheck rfl) rfl (by kernel_rfl) ?_
      refine xm_take 7 (m' := 255) rfl (by kernel_rfl) (by first | exact Sb.refl | exact Sb.nil | (repeat (first | exact Sb.nil | exact Sb.refl | exact Sb.app0 | apply Sb.keep | apply Sb.keepApp | apply Sb.cons | apply Sb.app))) (rd_fieldAddr rfl) rfl (by kernel_rfl) ?_
      refine xm_take 8 (m' := 511) rfl (by kernel_rfl) (by first | exact Sb.refl | exact Sb.nil | (repeat (first | exact Sb.nil | exact Sb.refl | exact Sb.app0 | apply Sb.keep | apply Sb.keepApp | apply Sb.cons | apply Sb.app))) (rd_load1 rfl (Cl.o0 rfl)) rfl (by kernel_rfl) ?_
      refine xm_take 9 (m' := 1023) rfl (by kernel_rfl) (by first | exact Sb.refl | exact Sb.nil | (repeat (first | exact Sb.nil | exact Sb.refl | exact Sb.app0 | apply Sb.keep | apply Sb.keepApp | apply Sb.cons | apply Sb.app))) (rd_gtr rfl rfl) rfl (by kernel_rfl) ?_
      refine xm_done (by kernel_rfl) ?_
      refine xq_seq ?_
      refine xc_dec rfl (fun h1 => ?_) (fun h1 => ?_)
      refine xc_region ?_
      refine xo_rd (rd_move rfl) rfl ?_
      rotate_left
      refine xc_skip ?_
      rotate_left
    all_goals obtain ⟨y2, hok, hyc2, hyp2, hys2, hyh2, hperm⟩ := Ca.snoc x.size x.hold ps c q' c' l' mb o' ⟨n, bs, false, 0, r38, .slice qb m cb, lb⟩ hO' hnn hnod hpk ho' ⟨by rw [hb]; exact hqb, by dsimp only; omega, by dsimp only; omega, by dsimp only; omega⟩ (by rw [← hps]; exact Nat.lt_of_le_of_lt List.length_eraseP_le hlt) hsz hh0
    all_goals have hst : y2.st = ⟨x.size, x.hold, (x.st.l.eraseP (fun q => q.n == n)) ++ [⟨n, bs, false, 0⟩]⟩ := (by rw [Ca.st, hys2, hyh2, hyp2, List.map_append, ← hps, map_eraseP]; rfl)
    · have hd := xf_drop (W := W) (L := L) y2 0 hok (by rw [hyp2]; simp)
      rw [hyc2] at hd
      refine xo_perm (L' := y2.blks ++ L) (hperm L) ?_
      refine xo_ef rfl (ef_call rfl (XF.mono hd ?_))
      rintro v L' ⟨rfl, nv', nl', mo', hy, rfl⟩
      focus
        refine xo_nil ?_
      refine xq_ret0 (.inr rfl) Try.results12 ⟨rfl, _, hy, rfl, ?_, rfl⟩
      have hlen : (x.st.l.eraseP (fun q => q.n == n)).length = ps.length := by rw [← hps, ← List.length_map (f := Pk.pp), map_eraseP]; rfl
      unfold Sta.put cutTo
      rw [if_pos (by rw [List.length_append, hlen]; exact h1)]
      unfold Ca.st
      dsimp only
      rw [hys2, hyh2, List.eraseIdx_zero, List.map_tail]
      have := congrArg Sta.l hst
      dsimp only [Ca.st] at this
      rw [this]
    · refine xq_perm (L' := y2.blks ++ L) (hperm L) ?_
      refine xq_ret0 (.inr rfl) Try.results12 ⟨rfl, y2, hok, hyc2, ?_, rfl⟩
      have hlen : (x.st.l.eraseP (fun q => q.n == n)).length = ps.length := by rw [← hps, ← List.length_map (f := Pk.pp), map_eraseP]; rfl
      rw [hst]
      unfold Sta.put cutTo
      rw [if_neg (by rw [List.length_append, hlen]; exact h1)]
      rfl
end Go.Proofs.Ytmjklmjdmocaiaa.X
