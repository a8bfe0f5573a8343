/-
  Texts of my own, put together: walks and laws for this seat. No condition.
-/
import Derived.Test.YtmdeajdaeihniaaGreatM6
import Derived.Test.YtmdeajdaeihniaaGreatM1
import Derived.ProofKit
import Derived.OpenShut
import Derived.ShutString
import Derived.ChangeOld
import Derived.Carry
/-
  The roster's Source, Ids, Leave and Join, by walks of my own.
-/
namespace Go.Proofs.YtmdeajdaeihniaaGreat.X
open Go Go.RowKit
set_option linter.unusedVariables false
set_option linter.unusedSimpArgs false
theorem getSrc_none {l : List Mb} {s : Int} : getSrc l s = none ↔ s ∉ srcs l := by
  unfold getSrc srcs
  rw [List.find?_eq_none]
  constructor
  · intro h hm
    obtain ⟨m, hm, hs⟩ := List.mem_flatMap.1 hm
    have := h m hm
    simp only [Mb.src, List.mem_cons, List.not_mem_nil, or_false] at this hs
    rcases hs with rfl | rfl <;> simp at this
  · intro h m hm hs
    refine h (List.mem_flatMap.2 ⟨m, hm, ?_⟩)
    simp only [Mb.src, Bool.or_eq_true, beq_iff_eq] at hs
    rcases hs with rfl | rfl <;> simp
theorem getSrc_some {l : List Mb} {s : Int} {m : Mb} (h : getSrc l s = some m) : m ∈ l ∧ m.src s = true := ⟨List.mem_of_find?_eq_some h, by have := List.find?_some (p := fun m : Mb => m.src s) h; exact this⟩
theorem getId_mem {l : List Mb} {m : Mb} (hn : (l.map Mb.id).Nodup) (hm : m ∈ l) : getId l m.id = some m := by
  obtain ⟨i, hi, rfl⟩ := List.getElem_of_mem hm
  unfold getId
  rw [List.find?_eq_some_iff_getElem]
  refine ⟨by simp, i, hi, rfl, fun j hj => ?_⟩
  have hd := List.pairwise_iff_getElem.1 hn j i (by simpa using (by omega : j < l.length)) (by simpa using hi) hj
  simp only [List.getElem_map] at hd
  simpa using hd
theorem getId_none {l : List Mb} {id : Int} (h : getId l id = none) : id ∉ l.map Mb.id := fun hm => by
  obtain ⟨m, hm', rfl⟩ := List.mem_map.1 hm
  have := List.find?_eq_none.1 h m hm'
  simp at this
theorem xf_source_none {W : World} {L : List Blk} (x : Ro) (hx : x.Ok) (s : Int) (h : getSrc x.ms s = none) : XF Tryz.prog W 86 #[.pointer (some ⟨x.c, 0, none⟩), .int .u32 s] (x.blks ++ L) (fun v L' => v = .tuple #[.agg (Mb.mk 0 0 0 false).enc.toArray, .bool false, .bool false] ∧ L' = x.blks ++ L) := by
  have hm := hx.map
  have hsn : srcOf x.ms s = none := by unfold srcOf; rw [h]; rfl
  rw [Ro.blks_app]
  refine xf_enter (args := [_, _]) Tryz.func86 rfl Tryz.ntmps86 rfl ?_
  focus
    refine xc_seq ?_
    refine xc_region ?_
    refine xo_ef rfl (ef_alloc fun r4 => ?_)
    refine xo_rd (rd_assign rfl) rfl ?_
    refine xo_rd (rd_assign rfl) rfl ?_
    refine xo_nil ?_
    refine xq_seq ?_
    refine xc_seq ?_
    refine xc_seq ?_
    refine xc_region ?_
    refine xo_rd (rd_move rfl) rfl ?_
    refine xo_rd (rd_eqnil rfl) rfl ?_
    refine xo_nil ?_
    refine xq_seq ?_
    refine xc_condf rfl ?_
    refine xc_skip ?_
    refine xq_seq ?_
    refine xc_seq ?_
    refine xc_region ?_
    refine xo_rd (rd_move rfl) rfl ?_
    refine xo_rd (rd_nilCheck rfl) rfl ?_
    refine xo_rd (rd_fieldAddr rfl) rfl ?_
    refine xo_rd (rd_load1 rfl (Cl.o1 rfl)) rfl ?_
    refine xo_rd (rd_move rfl) rfl ?_
    refine xo_rd (rd_lookupOk (by assumption) rfl rfl Kn.o2) rfl ?_
    refine xo_rd (rd_move rfl) rfl ?_
    refine xo_rd (rd_extract rfl rfl) rfl ?_
    refine xo_rd (rd_extract rfl rfl) rfl ?_
    refine xo_rd (rd_assign rfl) rfl ?_
    refine xo_rd (rd_assign rfl) rfl ?_
    refine xo_nil ?_
    refine xq_seq ?_
    refine xc_seq ?_
    refine xc_seq ?_
    refine xc_region ?_
    refine xo_rd (rd_move rfl) rfl ?_
    refine xo_rd (rd_not rfl) rfl ?_
    refine xo_nil ?_
    refine xq_seq ?_
  rw [hsn]
  focus
    refine xc_condt rfl ?_
    refine xc_seq ?_
    refine xc_region ?_
    refine xo_rd (rd_build rfl rfl rfl) rfl ?_
    refine xo_ef rfl (ef_storeB [] _ rfl rfl (by first | rfl | assumption) rfl rfl rfl ?_)
    refine xo_rd (rd_assign rfl) rfl ?_
    refine xo_rd (rd_assign rfl) rfl ?_
    refine xo_nil ?_
    refine xq_seq ?_
    refine xc_ret ?_
    refine xq_then_ret ?_
  exact xq_retB3 (.inl rfl) Tryz.results86 rfl rfl rfl Kn.o0 rfl (List.sublist_cons_self _ _) ⟨rfl, rfl⟩
theorem xf_source_some {W : World} {L : List Blk} (x : Ro) (hx : x.Ok) (s : Int) (m : Mb) (h : getSrc x.ms s = some m) : XF Tryz.prog W 86 #[.pointer (some ⟨x.c, 0, none⟩), .int .u32 s] (x.blks ++ L) (fun v L' => v = .tuple #[.agg m.enc.toArray, .bool (decide (m.content = s)), .bool true] ∧ L' = x.blks ++ L) := by
  have hm := hx.map
  have hsn : srcOf x.ms s = some (.int .i64 m.id) := by unfold srcOf; rw [h]; rfl
  have hg : getId x.ms m.id = some m := getId_mem hx.fit.ids (getSrc_some h).1
  refine xf_enter (args := [_, _]) Tryz.func86 rfl Tryz.ntmps86 rfl ?_
  rw [Ro.blks_app]
  focus
    refine xc_seq ?_
    refine xc_region ?_
    refine xo_ef rfl (ef_alloc fun r4 => ?_)
    refine xo_rd (rd_assign rfl) rfl ?_
    refine xo_rd (rd_assign rfl) rfl ?_
    refine xo_nil ?_
    refine xq_seq ?_
    refine xc_seq ?_
    refine xc_seq ?_
    refine xc_region ?_
    refine xo_rd (rd_move rfl) rfl ?_
    refine xo_rd (rd_eqnil rfl) rfl ?_
    refine xo_nil ?_
    refine xq_seq ?_
    refine xc_condf rfl ?_
    refine xc_skip ?_
    refine xq_seq ?_
    refine xc_seq ?_
    refine xc_region ?_
    refine xo_rd (rd_move rfl) rfl ?_
    refine xo_rd (rd_nilCheck rfl) rfl ?_
    refine xo_rd (rd_fieldAddr rfl) rfl ?_
    refine xo_rd (rd_load1 rfl (Cl.o1 rfl)) rfl ?_
    refine xo_rd (rd_move rfl) rfl ?_
    refine xo_rd (rd_lookupOk (by assumption) rfl rfl Kn.o2) rfl ?_
    refine xo_rd (rd_move rfl) rfl ?_
    refine xo_rd (rd_extract rfl rfl) rfl ?_
    refine xo_rd (rd_extract rfl rfl) rfl ?_
    refine xo_rd (rd_assign rfl) rfl ?_
    refine xo_rd (rd_assign rfl) rfl ?_
    refine xo_nil ?_
    refine xq_seq ?_
    refine xc_seq ?_
    refine xc_seq ?_
    refine xc_region ?_
    refine xo_rd (rd_move rfl) rfl ?_
    refine xo_rd (rd_not rfl) rfl ?_
    refine xo_nil ?_
    refine xq_seq ?_
  rw [hsn]
  focus
    refine xc_condf rfl ?_
    refine xc_skip ?_
    refine xq_seq ?_
    refine xc_seq ?_
    refine xc_region ?_
    refine xo_rd (rd_move rfl) rfl ?_
    refine xo_rd (rd_move rfl) rfl ?_
  rw [← Ro.blks_app]
  refine xo_ef rfl (ef_call rfl (XF.mono (XF.seg [_] x.blks L (xf_get x hx m.id)) ?_))
  rintro v L' ⟨rfl, rfl⟩
  rw [hg]
  refine xo_seg [_] x.blks L ?_
  focus
    refine xo_rd (rd_move rfl) rfl ?_
    refine xo_rd (rd_extract rfl rfl) rfl ?_
    refine xo_rd (rd_extract rfl rfl) rfl ?_
    refine xo_ef rfl (ef_storeB [] _ rfl rfl (by first | rfl | assumption) rfl rfl rfl ?_)
    refine xo_nil ?_
    refine xq_seq ?_
    refine xc_seq ?_
    refine xc_drawML [0, 0, 0, 4, 0, 0, 32, 0, 128, 344, 514, 495, 4095, 8191] [0, 0, 0, 4, 0, 0, 32, 0, 128, 344, 514, 495, 4095, 8191] (by kernel_rfl) (by kernel_rfl) (by kernel_rfl) ?_
    refine xm_take 0 (m' := 1) rfl (by kernel_rfl) Sb.refl (rd_loadB rfl Kn.o0 (by rfl)) rfl (by kernel_rfl) ?_
    refine xm_take 1 (m' := 3) rfl (by kernel_rfl) Sb.refl (rd_loadB rfl Kn.o0 (by rfl)) rfl (by kernel_rfl) ?_
    refine xm_take 2 (m' := 7) rfl (by kernel_rfl) Sb.refl (rd_fieldAddr rfl) rfl (by kernel_rfl) ?_
    refine xm_take 3 (m' := 15) rfl (by kernel_rfl) Sb.refl (rd_load1 rfl (Cl.o0 rfl)) rfl (by kernel_rfl) ?_
    refine xm_take 4 (m' := 31) rfl (by kernel_rfl) Sb.refl (rd_move rfl) rfl (by kernel_rfl) ?_
    refine xm_take 5 (m' := 63) rfl (by kernel_rfl) Sb.refl (rd_fieldAddr rfl) rfl (by kernel_rfl) ?_
    refine xm_take 6 (m' := 127) rfl (by kernel_rfl) Sb.refl (rd_load1 rfl (Cl.o0 rfl)) rfl (by kernel_rfl) ?_
    refine xm_take 7 (m' := 255) rfl (by kernel_rfl) Sb.refl (rd_fieldAddr rfl) rfl (by kernel_rfl) ?_
    refine xm_take 8 (m' := 511) rfl (by kernel_rfl) Sb.refl (rd_load1 rfl (Cl.o0 rfl)) rfl (by kernel_rfl) ?_
    refine xm_take 9 (m' := 1023) rfl (by kernel_rfl) Sb.refl (rd_build rfl rfl rfl) rfl (by kernel_rfl) ?_
    refine xm_take 10 (m' := 2047) rfl (by kernel_rfl) Sb.refl (rd_eqMb34 (a := m) (b := ⟨m.id, s, m.camera, m.mod⟩) rfl rfl) rfl (by kernel_rfl) ?_
    refine xm_one 11 (m' := 4095) rfl (by kernel_rfl) rfl (by kernel_rfl) (ef_storeB [] _ rfl rfl (by first | rfl | assumption) rfl rfl rfl ?_)
    refine ⟨Sb.refl, ?_⟩
    refine xm_take 12 (m' := 8191) rfl (by kernel_rfl) Sb.refl (rd_assign rfl) rfl (by kernel_rfl) ?_
    refine xm_take 13 (m' := 16383) rfl (by kernel_rfl) Sb.refl (rd_assign rfl) rfl (by kernel_rfl) ?_
    refine xm_done (by kernel_rfl) ?_
    refine xq_seq ?_
    refine xc_ret ?_
  have hd : decide (m = ⟨m.id, s, m.camera, m.mod⟩) = decide (m.content = s) := by
    obtain ⟨a0, a1, a2, a3⟩ := m
    rw [Bool.eq_iff_iff]
    simp
  exact xq_retB3 (.inl rfl) Tryz.results86 rfl rfl rfl Kn.o0 rfl (List.sublist_cons_self _ _) ⟨by rw [hd]; rfl, rfl⟩
theorem xf_ids {W : World} {L : List Blk} (x : Ro) (hx : x.Ok) : XF Tryz.prog W 87 #[.pointer (some ⟨x.c, 0, none⟩)] (x.blks ++ L) (fun v L' => ∃ p k l, v = .slice p x.ms.length k ∧ SlO 1 3 (.slice p x.ms.length k) x.ms.length (ints .i64 (x.ms.map Mb.id)) l ∧ L' = l ++ (x.blks ++ L)) := by
  have hl := hx.fit.len
  have hl2 := hx.fit.most
  refine xf_enter (args := [_]) Tryz.func87 rfl Tryz.ntmps87 rfl ?_
  focus
    refine xc_seq ?_
    refine xc_region ?_
    refine xo_rd (rd_assign rfl) rfl ?_
    refine xo_nil ?_
    refine xq_seq ?_
    refine xc_seq ?_
    refine xc_seq ?_
    refine xc_region ?_
    refine xo_rd (rd_move rfl) rfl ?_
  refine xo_ef rfl (ef_call rfl (XF.mono (xf_all x hx) ?_))
  rintro v L' ⟨p, k, l, rfl, hO, hk, rfl⟩
  focus
    refine xo_rd (rd_len rfl) rfl ?_
    refine xo_rd (rd_move rfl) rfl ?_
    refine xo_nil ?_
    refine xq_seq ?_
    refine xc_block ?_
  refine xc_loopI (ι := Nat × Value × List Blk) (fun s => s.1 ≤ x.ms.length ∧ SlO 1 3 s.2.1 s.1 (ints .i64 ((x.ms.take s.1).map Mb.id)) s.2.2) (fun s => x.ms.length - s.1) (fun s => s.2.2 ++ (l ++ (x.blks ++ L))) (fun s => [(2, s.2.1), (6, .slice p x.ms.length k), (7, .int .i64 x.ms.length), (8, .int .i64 s.1)]) (0, .slice none 0 0, []) ⟨Nat.zero_le _, SlO.nil⟩ rfl (by repeat (first | exact keep_nil | refine keep_cons rfl ?_)) ?_
  rintro ⟨i, v, lo⟩ ⟨hi, hOo⟩
  dsimp only at hi hOo ⊢
  focus
    refine xc_seq ?_
    refine xc_region ?_
    refine xo_rd (rd_lss rfl rfl) rfl ?_
    refine xo_nil ?_
    refine xq_seq ?_
    refine xc_seq ?_
    refine xc_dec rfl (fun hi1 => ?_) (fun hi1 => ?_)
    refine xc_skip ?_
    refine xq_seq ?_
    refine xc_seq ?_
    refine xc_block ?_
    refine xc_seq ?_
    refine xc_region ?_
    rotate_left
    refine xc_exit ?_
    refine xq_then_exit ?_
    refine xq_then_exit ?_
    refine xq_block_hit ?_
    refine xq_seq ?_
    refine xc_seq ?_
    refine xc_region ?_
    refine xo_rd (rd_move rfl) rfl ?_
    refine xo_rd (rd_assign rfl) rfl ?_
    refine xo_nil ?_
    refine xq_seq ?_
    refine xc_ret ?_
    rotate_left
  · have hil : i < x.ms.length := by omega
    obtain ⟨b, o, rfl, hc⟩ := (hO.rs (W := W) (L := lo ++ (l ++ (x.blks ++ L))) (by intro z hz; simp [hz])).row Mb.len (by decide) hil
    have ht : (x.ms.take (i + 1)).map Mb.id = (x.ms.take i).map Mb.id ++ [x.ms[i].id] := by
      rw [List.take_add_one, List.getElem?_eq_getElem hil, List.map_append]; rfl
    focus
      refine xo_rd (rd_indexAddr rfl rfl (by omega) (by omega)) rfl ?_
      refine xo_rd (rd_loadA (vs := x.ms[i].enc) rfl rfl hc) rfl ?_
      refine xo_ef rfl (ef_alloc fun r4 => ?_)
      refine xo_ef rfl (ef_storeB [] _ rfl rfl (by first | rfl | assumption) rfl rfl rfl ?_)
      refine xo_nil ?_
      refine xq_seq ?_
      refine xc_region ?_
      refine xo_rd (rd_move rfl) rfl ?_
      refine xo_rd (rd_fieldAddr rfl) rfl ?_
      refine xo_rd (rd_load1 rfl (Cl.o0 rfl)) rfl ?_
      refine xo_ef rfl (ef_slice1 rfl rfl rfl fun r15 => ?_)
    refine xo_ef rfl (ef_append [_, _] _ lo rfl rfl hOo rfl (Rs.fresh (List.Mem.head _)) rfl rfl (by decide) (by omega) (by omega) fun v' lo' hO' => ?_)
    refine xo_tail (xo_tail ?_)
    focus
      refine xo_rd (rd_assign rfl) rfl ?_
      refine xo_nil ?_
      refine xq_block ?_
      refine xq_seq ?_
      refine xc_region ?_
      refine xo_rd (rd_addn rfl rfl (by omega) (by omega)) rfl ?_
      refine xo_rd (rd_move rfl) rfl ?_
      refine xo_nil ?_
    exact xq_roundI (i + 1, v', lo') ⟨by dsimp only; omega, by dsimp only; rw [ht, ints_app]; exact hO'⟩ (by dsimp only; omega) rfl (by repeat (first | exact keep_nil | refine keep_cons rfl ?_))
  · have hil : i = x.ms.length := by omega
    subst hil
    rw [List.take_length] at hOo
    obtain ⟨po, ko, rfl, hOo, _⟩ := hOo.opn
    refine xq_sub (L' := lo ++ (x.blks ++ L)) ((List.Sublist.refl _).append (List.sublist_append_right _ _)) ?_
    exact xq_ret1 (.inl rfl) Tryz.results87 rfl ⟨po, ko, lo, rfl, hOo, rfl⟩
theorem srcs_app (a b : List Mb) : srcs (a ++ b) = srcs a ++ srcs b := by simp [srcs]
theorem getSrc_app (a b : List Mb) (s : Int) : getSrc (a ++ b) s = (getSrc a s).or (getSrc b s) := by unfold getSrc; rw [List.find?_append]
/-- One member leaves: what the map is to tell. -/
theorem srcOf_leave (l : List Mb) (i : Nat) (hi : i < l.length) (hn : (srcs l).Nodup) : mupd (mupd (srcOf l) l[i].content none) l[i].camera none = srcOf (l.eraseIdx i) := by
  have hl : l = l.take i ++ l[i] :: l.drop (i + 1) := by rw [List.getElem_cons_drop, List.take_append_drop]
  have he : l.eraseIdx i = l.take i ++ l.drop (i + 1) := List.eraseIdx_eq_take_drop_succ l i
  rw [he]
  generalize l[i] = m at *
  generalize l.take i = a at *
  generalize l.drop (i + 1) = b at *
  subst hl
  rw [srcs_app, show srcs (m :: b) = m.content :: m.camera :: srcs b from rfl] at hn
  have h1 := List.nodup_append.1 hn
  have h2 := List.nodup_cons.1 h1.2.1
  have h3 := List.nodup_cons.1 h2.2
  funext s
  unfold mupd srcOf
  rw [getSrc_app, getSrc_app]
  have hc : getSrc (m :: b) s = if m.src s = true then some m else getSrc b s := by
    unfold getSrc; rw [List.find?_cons]; cases m.src s <;> rfl
  rw [hc]
  by_cases c1 : s = m.camera
  · subst c1
    have e1 : getSrc a m.camera = none := getSrc_none.2 fun h => h1.2.2 _ h _ (by simp) rfl
    have e2 : getSrc b m.camera = none := getSrc_none.2 h3.1
    rw [if_pos rfl, e1, e2]; rfl
  · by_cases c2 : s = m.content
    · subst c2
      have e1 : getSrc a m.content = none := getSrc_none.2 fun h => h1.2.2 _ h _ (by simp) rfl
      have e2 : getSrc b m.content = none := getSrc_none.2 fun h => h2.1 (List.mem_cons_of_mem _ h)
      rw [if_neg c1, if_pos rfl, e1, e2]; rfl
    · have e : ¬ m.src s = true := by
        unfold Mb.src
        simp only [Bool.or_eq_true, beq_iff_eq, not_or]
        exact ⟨fun e => c2 e.symm, fun e => c1 e.symm⟩
      rw [if_neg c1, if_neg c2, if_neg e]
theorem srcs_sub {a b : List Mb} (h : a.Sublist b) : (srcs a).Sublist (srcs b) := by
  unfold srcs
  induction h with
  | slnil => exact List.Sublist.refl _
  | cons a _ ih => rw [List.flatMap_cons]; exact ih.trans (List.sublist_append_right _ _)
  | cons_cons a _ ih => rw [List.flatMap_cons, List.flatMap_cons]; exact (List.Sublist.refl _).append ih
theorem Fit.leave {most : Int} {l : List Mb} (h : Fit most l) (i : Nat) : Fit most (l.eraseIdx i) := by
  have hs := List.eraseIdx_sublist l i
  refine ⟨h.ids.sublist (hs.map _), h.src.sublist ?_, fun m hm => h.right m (hs.subset hm), ?_, h.most⟩
  · exact srcs_sub hs
  · have := hs.length_le; have := h.len; omega
theorem flat_eraseM (l : List Mb) (i : Nat) (hi : i < l.length) : (l.flatMap Mb.enc).take (i * 4) ++ (l.flatMap Mb.enc).drop ((i + 1) * 4) = (l.eraseIdx i).flatMap Mb.enc := by
  have hl : l = l.take i ++ l[i] :: l.drop (i + 1) := by rw [List.getElem_cons_drop, List.take_append_drop]
  have e1 : ((l.take i).flatMap Mb.enc).length = i * 4 := by rw [flat_length Mb.enc Mb.len, List.length_take, Nat.min_eq_left (by omega)]
  have e2 : ((l.take i).flatMap Mb.enc ++ Mb.enc l[i]).length = (i + 1) * 4 := by rw [List.length_append, e1, Mb.len]; omega
  have e3 : l.flatMap Mb.enc = (l.take i).flatMap Mb.enc ++ Mb.enc l[i] ++ (l.drop (i + 1)).flatMap Mb.enc := by
    conv => lhs; rw [hl]
    rw [List.flatMap_append, List.flatMap_cons, List.append_assoc]
  have e4 : ((l.take i).flatMap Mb.enc ++ Mb.enc l[i] ++ (l.drop (i + 1)).flatMap Mb.enc).take (i * 4) = (l.take i).flatMap Mb.enc := by rw [List.append_assoc, List.take_left' e1]
  rw [e3, List.drop_left' e2, e4, List.eraseIdx_eq_take_drop_succ, List.flatMap_append]
theorem xf_leave {W : World} {L : List Blk} (x : Ro) (hx : x.Ok) (id : Int) : XF Tryz.prog W 63 #[.pointer (some ⟨x.c, 0, none⟩), .int .i64 id] (x.blks ++ L) (fun v L' => v = .int .i64 (leaveR x.ms id) ∧ ∃ y : Ro, y.Ok ∧ y.c = x.c ∧ y.most = x.most ∧ y.ms = leaveL x.ms id ∧ L' = y.blks ++ L) := by
  refine xf_enter (args := [_, _]) Tryz.func63 rfl Tryz.ntmps63 rfl ?_
  rcases ix_cases x.ms id with ⟨he, hg, hlv⟩ | ⟨i, hi, he, hg, hid, hlv⟩
  · have hpl : ∀ L, XF Tryz.prog W 89 #[.pointer (some ⟨x.c, 0, none⟩), .int .i64 id] (x.blks ++ L) (fun v L' => v = .int .i64 (-1) ∧ L' = x.blks ++ L) := fun L => by have := xf_place (W := W) (L := L) x hx id; rw [he] at this; exact this
    focus
      refine xc_seq ?_
      refine xc_region ?_
      refine xo_rd (rd_assign rfl) rfl ?_
      refine xo_nil ?_
      refine xq_seq ?_
      refine xc_seq ?_
      refine xc_seq ?_
      refine xc_region ?_
      refine xo_rd (rd_move rfl) rfl ?_
      refine xo_rd (rd_eqnil rfl) rfl ?_
      refine xo_nil ?_
      refine xq_seq ?_
      refine xc_condf rfl ?_
      refine xc_skip ?_
      refine xq_seq ?_
      refine xc_seq ?_
      refine xc_region ?_
      refine xo_rd (rd_move rfl) rfl ?_
      refine xo_rd (rd_move rfl) rfl ?_
      refine xo_ef rfl (ef_call rfl (XF.mono (hpl _) ?_))
      rintro v L' ⟨rfl, rfl⟩
      refine xo_rd (rd_assign rfl) rfl ?_
      refine xo_nil ?_
      refine xq_seq ?_
      refine xc_seq ?_
      refine xc_seq ?_
      refine xc_region ?_
      refine xo_rd (rd_move rfl) rfl ?_
      refine xo_rd (rd_lss rfl rfl) rfl ?_
      refine xo_nil ?_
      refine xq_seq ?_
      refine xc_condt rfl ?_
      refine xc_seq ?_
      refine xc_region ?_
      refine xo_rd (rd_assign rfl) rfl ?_
      refine xo_nil ?_
      refine xq_seq ?_
      refine xc_ret ?_
      refine xq_then_ret ?_
    exact xq_ret1 (.inl rfl) Tryz.results63 rfl ⟨by unfold leaveR; rw [hg]; rfl, x, hx, rfl, rfl, hlv.symm, rfl⟩
  · have hpl : ∀ L, XF Tryz.prog W 89 #[.pointer (some ⟨x.c, 0, none⟩), .int .i64 id] (x.blks ++ L) (fun v L' => v = .int .i64 i ∧ L' = x.blks ++ L) := fun L => by have := xf_place (W := W) (L := L) x hx id; rw [he] at this; exact this
    focus
      refine xc_seq ?_
      refine xc_region ?_
      refine xo_rd (rd_assign rfl) rfl ?_
      refine xo_nil ?_
      refine xq_seq ?_
      refine xc_seq ?_
      refine xc_seq ?_
      refine xc_region ?_
      refine xo_rd (rd_move rfl) rfl ?_
      refine xo_rd (rd_eqnil rfl) rfl ?_
      refine xo_nil ?_
      refine xq_seq ?_
      refine xc_condf rfl ?_
      refine xc_skip ?_
      refine xq_seq ?_
      refine xc_seq ?_
      refine xc_region ?_
      refine xo_rd (rd_move rfl) rfl ?_
      refine xo_rd (rd_move rfl) rfl ?_
      refine xo_ef rfl (ef_call rfl (XF.mono (hpl _) ?_))
      rintro v L' ⟨rfl, rfl⟩
      refine xo_rd (rd_assign rfl) rfl ?_
      refine xo_nil ?_
      refine xq_seq ?_
      refine xc_seq ?_
      refine xc_seq ?_
      refine xc_region ?_
      refine xo_rd (rd_move rfl) rfl ?_
      refine xo_rd (rd_lss rfl rfl) rfl ?_
      refine xo_nil ?_
      refine xq_seq ?_
      refine xc_condf rfl ?_
      refine xc_skip ?_
      refine xq_seq ?_
    have hE : leaveR x.ms id = 0 := by unfold leaveR; rw [hg]; rfl
    rw [hE, hlv]
    rw [Ro.blks_app]
    clear hpl
    obtain ⟨most, ms, c, mv, ml, mb, mo, sz⟩ := x
    obtain ⟨hO, hm, hf⟩ := hx
    dsimp only [Ro.cells] at *
    obtain ⟨p, k, rfl, hO, hk⟩ := hO.opn
    have hl := hf.len
    have hl2 := hf.most
    have hi' : i < ms.length := hi
    have hrx : Rs W ((c, .cells [.int .i64 most, .slice p ms.length k, .map (some mb)].toArray 130 (0, 0)) :: ml) p (ms.flatMap Mb.enc) := hO.rs (by intro z hz; simp [hz])
    obtain ⟨b, o, hp, hc⟩ := hrx.row Mb.len (by decide) hi
    subst hp
    focus
      refine xc_seq ?_
      refine xc_drawM [0, 1, 2, 4, 0, 16, 32, 64, 0, 384, 512, 1024, 2056] [0, 1, 2, 4, 0, 16, 32, 64, 0, 384, 512, 1024, 2056] ((c, .cells [.int .i64 most, .slice (some ⟨b, o, none⟩) ms.length k, .map (some mb)].toArray 130 (0, 0)) :: ml) (by kernel_rfl) (by kernel_rfl) (by kernel_rfl) ?_
      refine xm_take 0 (m' := 1) rfl (by kernel_rfl) (by first | exact Sb.refl | exact Sb.nil | (repeat (first | exact Sb.nil | exact Sb.refl | exact Sb.app0 | apply Sb.keep | apply Sb.keepApp | apply Sb.cons | apply Sb.app))) (rd_move rfl) rfl (by kernel_rfl) ?_
      refine xm_take 1 (m' := 3) rfl (by kernel_rfl) (by first | exact Sb.refl | exact Sb.nil | (repeat (first | exact Sb.nil | exact Sb.refl | exact Sb.app0 | apply Sb.keep | apply Sb.keepApp | apply Sb.cons | apply Sb.app))) (rd_nilCheck rfl) rfl (by kernel_rfl) ?_
      refine xm_take 2 (m' := 7) rfl (by kernel_rfl) (by first | exact Sb.refl | exact Sb.nil | (repeat (first | exact Sb.nil | exact Sb.refl | exact Sb.app0 | apply Sb.keep | apply Sb.keepApp | apply Sb.cons | apply Sb.app))) (rd_fieldAddr rfl) rfl (by kernel_rfl) ?_
      refine xm_take 3 (m' := 15) rfl (by kernel_rfl) (by first | exact Sb.refl | exact Sb.nil | (repeat (first | exact Sb.nil | exact Sb.refl | exact Sb.app0 | apply Sb.keep | apply Sb.keepApp | apply Sb.cons | apply Sb.app))) (rd_load1 rfl (Cl.o0 rfl)) rfl (by kernel_rfl) ?_
      refine xm_take 4 (m' := 31) rfl (by kernel_rfl) (by first | exact Sb.refl | exact Sb.nil | (repeat (first | exact Sb.nil | exact Sb.refl | exact Sb.app0 | apply Sb.keep | apply Sb.keepApp | apply Sb.cons | apply Sb.app))) (rd_move rfl) rfl (by kernel_rfl) ?_
      refine xm_take 5 (m' := 63) rfl (by kernel_rfl) (by first | exact Sb.refl | exact Sb.nil | (repeat (first | exact Sb.nil | exact Sb.refl | exact Sb.app0 | apply Sb.keep | apply Sb.keepApp | apply Sb.cons | apply Sb.app))) (rd_nilCheck rfl) rfl (by kernel_rfl) ?_
      refine xm_take 6 (m' := 127) rfl (by kernel_rfl) (by first | exact Sb.refl | exact Sb.nil | (repeat (first | exact Sb.nil | exact Sb.refl | exact Sb.app0 | apply Sb.keep | apply Sb.keepApp | apply Sb.cons | apply Sb.app))) (rd_fieldAddr rfl) rfl (by kernel_rfl) ?_
      refine xm_take 7 (m' := 255) rfl (by kernel_rfl) (by first | exact Sb.refl | exact Sb.nil | (repeat (first | exact Sb.nil | exact Sb.refl | exact Sb.app0 | apply Sb.keep | apply Sb.keepApp | apply Sb.cons | apply Sb.app))) (rd_load1 rfl (Cl.o0 rfl)) rfl (by kernel_rfl) ?_
      refine xm_take 8 (m' := 511) rfl (by kernel_rfl) (by first | exact Sb.refl | exact Sb.nil | (repeat (first | exact Sb.nil | exact Sb.refl | exact Sb.app0 | apply Sb.keep | apply Sb.keepApp | apply Sb.cons | apply Sb.app))) (rd_move rfl) rfl (by kernel_rfl) ?_
      refine xm_take 9 (m' := 1023) rfl (by kernel_rfl) (by first | exact Sb.refl | exact Sb.nil | (repeat (first | exact Sb.nil | exact Sb.refl | exact Sb.app0 | apply Sb.keep | apply Sb.keepApp | apply Sb.cons | apply Sb.app))) (rd_indexAddr rfl rfl (by omega) (by omega)) rfl (by kernel_rfl) ?_
      refine xm_take 10 (m' := 2047) rfl (by kernel_rfl) (by first | exact Sb.refl | exact Sb.nil | (repeat (first | exact Sb.nil | exact Sb.refl | exact Sb.app0 | apply Sb.keep | apply Sb.keepApp | apply Sb.cons | apply Sb.app))) (rd_fieldAddr rfl) rfl (by kernel_rfl) ?_
      refine xm_take 11 (m' := 4095) rfl (by kernel_rfl) (by first | exact Sb.refl | exact Sb.nil | (repeat (first | exact Sb.nil | exact Sb.refl | exact Sb.app0 | apply Sb.keep | apply Sb.keepApp | apply Sb.cons | apply Sb.app))) (rd_load1 rfl (hc 1 _ rfl)) rfl (by kernel_rfl) ?_
      refine xm_one 12 (m' := 8191) rfl (by kernel_rfl) rfl (by kernel_rfl) (ef_delete [_] _ (by assumption) rfl rfl rfl fun o' ho' => ?_)
      refine ⟨(by first | exact Sb.refl | exact Sb.nil | (repeat (first | exact Sb.nil | exact Sb.refl | exact Sb.app0 | apply Sb.keep | apply Sb.keepApp | apply Sb.cons | apply Sb.app))), ?_⟩
      refine xm_done (by kernel_rfl) ?_
      refine xq_seq ?_
      refine xc_seq ?_
      refine xc_drawM [0, 1, 2, 4, 0, 16, 32, 64, 0, 384, 512, 1024, 2056] [0, 1, 2, 4, 0, 16, 32, 64, 0, 384, 512, 1024, 2056] ((c, .cells [.int .i64 most, .slice (some ⟨b, o, none⟩) ms.length k, .map (some mb)].toArray 130 (0, 0)) :: ml) (by kernel_rfl) (by kernel_rfl) (by kernel_rfl) ?_
      refine xm_take 0 (m' := 1) rfl (by kernel_rfl) (by first | exact Sb.refl | exact Sb.nil | (repeat (first | exact Sb.nil | exact Sb.refl | exact Sb.app0 | apply Sb.keep | apply Sb.keepApp | apply Sb.cons | apply Sb.app))) (rd_move rfl) rfl (by kernel_rfl) ?_
      refine xm_take 1 (m' := 3) rfl (by kernel_rfl) (by first | exact Sb.refl | exact Sb.nil | (repeat (first | exact Sb.nil | exact Sb.refl | exact Sb.app0 | apply Sb.keep | apply Sb.keepApp | apply Sb.cons | apply Sb.app))) (rd_nilCheck rfl) rfl (by kernel_rfl) ?_
      refine xm_take 2 (m' := 7) rfl (by kernel_rfl) (by first | exact Sb.refl | exact Sb.nil | (repeat (first | exact Sb.nil | exact Sb.refl | exact Sb.app0 | apply Sb.keep | apply Sb.keepApp | apply Sb.cons | apply Sb.app))) (rd_fieldAddr rfl) rfl (by kernel_rfl) ?_
      refine xm_take 3 (m' := 15) rfl (by kernel_rfl) (by first | exact Sb.refl | exact Sb.nil | (repeat (first | exact Sb.nil | exact Sb.refl | exact Sb.app0 | apply Sb.keep | apply Sb.keepApp | apply Sb.cons | apply Sb.app))) (rd_load1 rfl (Cl.o0 rfl)) rfl (by kernel_rfl) ?_
      refine xm_take 4 (m' := 31) rfl (by kernel_rfl) (by first | exact Sb.refl | exact Sb.nil | (repeat (first | exact Sb.nil | exact Sb.refl | exact Sb.app0 | apply Sb.keep | apply Sb.keepApp | apply Sb.cons | apply Sb.app))) (rd_move rfl) rfl (by kernel_rfl) ?_
      refine xm_take 5 (m' := 63) rfl (by kernel_rfl) (by first | exact Sb.refl | exact Sb.nil | (repeat (first | exact Sb.nil | exact Sb.refl | exact Sb.app0 | apply Sb.keep | apply Sb.keepApp | apply Sb.cons | apply Sb.app))) (rd_nilCheck rfl) rfl (by kernel_rfl) ?_
      refine xm_take 6 (m' := 127) rfl (by kernel_rfl) (by first | exact Sb.refl | exact Sb.nil | (repeat (first | exact Sb.nil | exact Sb.refl | exact Sb.app0 | apply Sb.keep | apply Sb.keepApp | apply Sb.cons | apply Sb.app))) (rd_fieldAddr rfl) rfl (by kernel_rfl) ?_
      refine xm_take 7 (m' := 255) rfl (by kernel_rfl) (by first | exact Sb.refl | exact Sb.nil | (repeat (first | exact Sb.nil | exact Sb.refl | exact Sb.app0 | apply Sb.keep | apply Sb.keepApp | apply Sb.cons | apply Sb.app))) (rd_load1 rfl (Cl.o0 rfl)) rfl (by kernel_rfl) ?_
      refine xm_take 8 (m' := 511) rfl (by kernel_rfl) (by first | exact Sb.refl | exact Sb.nil | (repeat (first | exact Sb.nil | exact Sb.refl | exact Sb.app0 | apply Sb.keep | apply Sb.keepApp | apply Sb.cons | apply Sb.app))) (rd_move rfl) rfl (by kernel_rfl) ?_
      refine xm_take 9 (m' := 1023) rfl (by kernel_rfl) (by first | exact Sb.refl | exact Sb.nil | (repeat (first | exact Sb.nil | exact Sb.refl | exact Sb.app0 | apply Sb.keep | apply Sb.keepApp | apply Sb.cons | apply Sb.app))) (rd_indexAddr rfl rfl (by omega) (by omega)) rfl (by kernel_rfl) ?_
      refine xm_take 10 (m' := 2047) rfl (by kernel_rfl) (by first | exact Sb.refl | exact Sb.nil | (repeat (first | exact Sb.nil | exact Sb.refl | exact Sb.app0 | apply Sb.keep | apply Sb.keepApp | apply Sb.cons | apply Sb.app))) (rd_fieldAddr rfl) rfl (by kernel_rfl) ?_
      refine xm_take 11 (m' := 4095) rfl (by kernel_rfl) (by first | exact Sb.refl | exact Sb.nil | (repeat (first | exact Sb.nil | exact Sb.refl | exact Sb.app0 | apply Sb.keep | apply Sb.keepApp | apply Sb.cons | apply Sb.app))) (rd_load1 rfl (hc 2 _ rfl)) rfl (by kernel_rfl) ?_
      refine xm_one 12 (m' := 8191) rfl (by kernel_rfl) rfl (by kernel_rfl) (ef_delete [_] _ (by assumption) rfl rfl rfl fun o' ho' => ?_)
      refine ⟨(by first | exact Sb.refl | exact Sb.nil | (repeat (first | exact Sb.nil | exact Sb.refl | exact Sb.app0 | apply Sb.keep | apply Sb.keepApp | apply Sb.cons | apply Sb.app))), ?_⟩
      refine xm_done (by kernel_rfl) ?_
      refine xq_seq ?_
      refine xc_seq ?_
      refine xc_region ?_
      refine xo_rd (rd_move rfl) rfl ?_
      refine xo_rd (rd_move rfl) rfl ?_
      refine xo_rd (rd_nilCheck rfl) rfl ?_
      refine xo_rd (rd_fieldAddr rfl) rfl ?_
      refine xo_rd (rd_load1 rfl (Cl.o0 rfl)) rfl ?_
      refine xo_rd (rd_move rfl) rfl ?_
      refine xo_rd (rd_move rfl) rfl ?_
      refine xo_rd (rd_addn rfl rfl (by omega) (by omega)) rfl ?_
    have e1 : ms[i].content = ms[i].content := rfl
    refine xo_ef rfl (ef_call rfl ((XF.seg [_, _] ml _ (xf_delete _ _ i _ ml hO (Mb.one _) hi' (by omega))).mono ?_))
    rintro v L' ⟨p', c', l', rfl, hO', rfl⟩
    refine xo_seg [_, _] l' _ ?_
    focus
      refine xo_rd (rd_nilCheck rfl) rfl ?_
      refine xo_rd (rd_fieldAddr rfl) rfl ?_
      refine xo_ef rfl (ef_store1 [] _ rfl rfl (by first | rfl | assumption) rfl rfl rfl ?_)
      refine xo_nil ?_
      refine xq_seq ?_
      refine xc_seq ?_
      refine xc_region ?_
      refine xo_rd (rd_assign rfl) rfl ?_
      refine xo_nil ?_
      refine xq_seq ?_
      refine xc_ret ?_
    rw [flat_eraseM ms i hi'] at hO'
    have hle : (ms.eraseIdx i).length = ms.length - 1 := by rw [List.length_eraseIdx, if_pos hi']
    rw [← hle] at hO'
    rw [srcOf_leave ms i hi' hf.src] at ho'
    exact xq_ret1 (.inl rfl) Tryz.results63 rfl ⟨rfl, ⟨most, ms.eraseIdx i, c, .slice p' (ms.eraseIdx i).length c', l', mb, o', _⟩, ⟨hO', ho', hf.leave i⟩, rfl, rfl, rfl, by rw [Ro.blks_app, hle]; rfl⟩
/-- One member joins: what the map is to tell. -/
theorem srcOf_join (l : List Mb) (m : Mb) (v1 v2 : Value) (h1 : getSrc l m.content = none) (h2 : getSrc l m.camera = none) : mupd (mupd (mupd (mupd (srcOf l) m.content (some v1)) m.content (some (.int .i64 m.id))) m.camera (some v2)) m.camera (some (.int .i64 m.id)) = srcOf (l ++ [m]) := by
  funext s
  unfold mupd srcOf
  rw [getSrc_app]
  have hc : getSrc [m] s = if m.src s = true then some m else none := by
    unfold getSrc; rw [List.find?_cons, List.find?_nil]; cases m.src s <;> rfl
  rw [hc]
  by_cases c1 : s = m.camera
  · subst c1
    have : m.src m.camera = true := by simp [Mb.src]
    rw [if_pos rfl, h2, if_pos this]; rfl
  · by_cases c2 : s = m.content
    · subst c2
      have : m.src m.content = true := by simp [Mb.src]
      rw [if_neg c1, if_neg c1, if_pos rfl, h1, if_pos this]; rfl
    · have e : ¬ m.src s = true := by
        unfold Mb.src
        simp only [Bool.or_eq_true, beq_iff_eq, not_or]
        exact ⟨fun e => c2 e.symm, fun e => c1 e.symm⟩
      rw [if_neg c1, if_neg c1, if_neg c2, if_neg c2, if_neg e]
      cases getSrc l s <;> rfl
theorem Fit.join {most : Int} {l : List Mb} (h : Fit most l) (m : Mb) (hr : m.right) (hi : getId l m.id = none) (h1 : getSrc l m.content = none) (h2 : getSrc l m.camera = none) (hlen : ¬ most ≤ l.length) : Fit most (l ++ [m]) := by
  refine ⟨?_, ?_, fun z hz => ?_, ?_, h.most⟩
  · rw [List.map_append]
    refine List.nodup_append.2 ⟨h.ids, by simp, fun a ha b hb e => ?_⟩
    simp only [List.map_cons, List.map_nil, List.mem_singleton] at hb
    subst hb; subst e
    exact getId_none hi ha
  · rw [srcs_app]
    refine List.nodup_append.2 ⟨h.src, ?_, fun a ha b hb e => ?_⟩
    · show [m.content, m.camera].Nodup
      unfold Mb.right at hr
      simp only [List.nodup_cons, List.mem_singleton, List.not_mem_nil, not_false_eq_true, List.nodup_nil, and_true]
      exact fun e => hr (.inr (.inr (.inr e)))
    · have hb' : b = m.content ∨ b = m.camera := by simpa [srcs] using hb
      subst e
      rcases hb' with rfl | rfl
      · exact getSrc_none.1 h1 ha
      · exact getSrc_none.1 h2 ha
  · rcases List.mem_append.1 hz with hz | hz
    · exact h.right z hz
    · rw [List.mem_singleton] at hz; subst hz; exact hr
  · rw [List.length_append]; simp only [List.length_cons, List.length_nil]; omega
theorem isSome_src {l : List Mb} {s : Int} : (srcOf l s).isSome = (getSrc l s).isSome := by unfold srcOf; rw [Option.isSome_map]
set_option maxHeartbeats 8000000 in
theorem xf_join {W : World} {L : List Blk} (x : Ro) (hx : x.Ok) (m : Mb) : XF Tryz.prog W 78 #[.pointer (some ⟨x.c, 0, none⟩), .agg m.enc.toArray] (x.blks ++ L) (fun v L' => v = .int .i64 (joinR x.most x.ms m) ∧ ∃ y : Ro, y.Ok ∧ y.c = x.c ∧ y.most = x.most ∧ y.ms = joinL x.most x.ms m ∧ L' = y.blks ++ L) := by
  have keep : joinR x.most x.ms m ≠ 0 → (∃ y : Ro, y.Ok ∧ y.c = x.c ∧ y.most = x.most ∧ y.ms = joinL x.most x.ms m ∧ x.blks ++ L = y.blks ++ L) := fun h => ⟨x, hx, rfl, rfl, by unfold joinL; rw [if_neg h], rfl⟩
  have hm := hx.map
  have hlm := hx.fit.len
  have hmost := hx.fit.most
  have hpl : ∀ L, XF Tryz.prog W 89 #[.pointer (some ⟨x.c, 0, none⟩), .int .i64 m.id] (x.blks ++ L) (fun v L' => v = .int .i64 (ixOf (x.ms.map Mb.id) m.id) ∧ L' = x.blks ++ L) := fun L => xf_place x hx m.id
  refine xf_enter (args := [_, _]) Tryz.func78 rfl Tryz.ntmps78 rfl ?_
  rw [Ro.blks_app]
  focus
    refine xc_seq ?_
    refine xc_region ?_
    refine xo_ef rfl (ef_box rfl fun r3 => ?_)
    refine xo_rd (rd_assign rfl) rfl ?_
    refine xo_nil ?_
    refine xq_seq ?_
    refine xc_seq ?_
    refine xc_seq ?_
    refine xc_region ?_
    refine xo_rd (rd_move rfl) rfl ?_
    refine xo_rd (rd_eqnil rfl) rfl ?_
    refine xo_nil ?_
    refine xq_seq ?_
    refine xc_condf rfl ?_
    refine xc_skip ?_
    refine xq_seq ?_
    refine xc_seq ?_
    refine xc_drawML [0, 1, 2, 4, 0, 16, 40, 64, 128, 128, 511, 2047] [0, 1, 2, 4, 0, 16, 40, 64, 128, 128, 511, 2047] (by kernel_rfl) (by kernel_rfl) (by kernel_rfl) ?_
    refine xm_take 0 (m' := 1) rfl (by kernel_rfl) Sb.refl (rd_move rfl) rfl (by kernel_rfl) ?_
    refine xm_take 1 (m' := 3) rfl (by kernel_rfl) Sb.refl (rd_nilCheck rfl) rfl (by kernel_rfl) ?_
    refine xm_take 2 (m' := 7) rfl (by kernel_rfl) Sb.refl (rd_fieldAddr rfl) rfl (by kernel_rfl) ?_
    refine xm_take 3 (m' := 15) rfl (by kernel_rfl) Sb.refl (rd_load1 rfl (Cl.o1 rfl)) rfl (by kernel_rfl) ?_
    refine xm_take 4 (m' := 31) rfl (by kernel_rfl) Sb.refl (rd_fieldAddr rfl) rfl (by kernel_rfl) ?_
    refine xm_take 5 (m' := 63) rfl (by kernel_rfl) Sb.refl (rd_load1 rfl (Cl.o0 rfl)) rfl (by kernel_rfl) ?_
    refine xm_take 6 (m' := 127) rfl (by kernel_rfl) Sb.refl (rd_lookupOk (by assumption) rfl rfl Kn.o2) rfl (by kernel_rfl) ?_
    refine xm_take 7 (m' := 255) rfl (by kernel_rfl) Sb.refl (rd_move rfl) rfl (by kernel_rfl) ?_
    refine xm_take 8 (m' := 511) rfl (by kernel_rfl) Sb.refl (rd_extract rfl rfl) rfl (by kernel_rfl) ?_
    refine xm_take 9 (m' := 1023) rfl (by kernel_rfl) Sb.refl (rd_extract rfl rfl) rfl (by kernel_rfl) ?_
    refine xm_take 10 (m' := 2047) rfl (by kernel_rfl) Sb.refl (rd_assign rfl) rfl (by kernel_rfl) ?_
    refine xm_take 11 (m' := 4095) rfl (by kernel_rfl) Sb.refl (rd_assign rfl) rfl (by kernel_rfl) ?_
    refine xm_done (by kernel_rfl) ?_
    refine xq_seq ?_
    refine xc_seq ?_
    refine xc_drawML [0, 1, 2, 4, 0, 16, 40, 64, 128, 128, 511, 2047] [0, 1, 2, 4, 0, 16, 40, 64, 128, 128, 511, 2047] (by kernel_rfl) (by kernel_rfl) (by kernel_rfl) ?_
    refine xm_take 0 (m' := 1) rfl (by kernel_rfl) Sb.refl (rd_move rfl) rfl (by kernel_rfl) ?_
    refine xm_take 1 (m' := 3) rfl (by kernel_rfl) Sb.refl (rd_nilCheck rfl) rfl (by kernel_rfl) ?_
    refine xm_take 2 (m' := 7) rfl (by kernel_rfl) Sb.refl (rd_fieldAddr rfl) rfl (by kernel_rfl) ?_
    refine xm_take 3 (m' := 15) rfl (by kernel_rfl) Sb.refl (rd_load1 rfl (Cl.o1 rfl)) rfl (by kernel_rfl) ?_
    refine xm_take 4 (m' := 31) rfl (by kernel_rfl) Sb.refl (rd_fieldAddr rfl) rfl (by kernel_rfl) ?_
    refine xm_take 5 (m' := 63) rfl (by kernel_rfl) Sb.refl (rd_load1 rfl (Cl.o0 rfl)) rfl (by kernel_rfl) ?_
    refine xm_take 6 (m' := 127) rfl (by kernel_rfl) Sb.refl (rd_lookupOk (by assumption) rfl rfl Kn.o2) rfl (by kernel_rfl) ?_
    refine xm_take 7 (m' := 255) rfl (by kernel_rfl) Sb.refl (rd_move rfl) rfl (by kernel_rfl) ?_
    refine xm_take 8 (m' := 511) rfl (by kernel_rfl) Sb.refl (rd_extract rfl rfl) rfl (by kernel_rfl) ?_
    refine xm_take 9 (m' := 1023) rfl (by kernel_rfl) Sb.refl (rd_extract rfl rfl) rfl (by kernel_rfl) ?_
    refine xm_take 10 (m' := 2047) rfl (by kernel_rfl) Sb.refl (rd_assign rfl) rfl (by kernel_rfl) ?_
    refine xm_take 11 (m' := 4095) rfl (by kernel_rfl) Sb.refl (rd_assign rfl) rfl (by kernel_rfl) ?_
    refine xm_done (by kernel_rfl) ?_
    refine xq_seq ?_
  rw [← Ro.blks_app]
  rw [isSome_src, isSome_src]
  by_cases hr : m.right
  · have hr' := hr
    unfold Mb.right at hr'
    have r1 : ¬ m.id < 0 := fun h => hr' (.inl h)
    have r2 : ¬ m.content = 0 := fun h => hr' (.inr (.inl h))
    have r3' : ¬ m.camera = 0 := fun h => hr' (.inr (.inr (.inl h)))
    have r4 : ¬ m.content = m.camera := fun h => hr' (.inr (.inr (.inr h)))
    focus
      refine xc_seq ?_
      refine xc_block ?_
      refine xc_seq ?_
      refine xc_region ?_
      refine xo_rd (rd_fieldAddr rfl) rfl ?_
      refine xo_rd (rd_load1 rfl (Cl.o0 rfl)) rfl ?_
      refine xo_rd (rd_lss rfl rfl) rfl ?_
      refine xo_rd (rd_move rfl) rfl ?_
      refine xo_dec 35 rfl (fun hj1 => (by exfalso; omega)) (fun hj1 => ?_)
      refine xo_grd rfl rfl (rd_fieldAddr rfl) rfl ?_
      refine xo_grd rfl rfl (rd_load1 rfl (Cl.o0 rfl)) rfl ?_
      refine xo_grd rfl rfl (rd_eql rfl rfl) rfl ?_
      refine xo_rd (rd_pickf rfl rfl) rfl ?_
      refine xo_rd (rd_move rfl) rfl ?_
      refine xo_dec 40 rfl (fun hj2 => (by exfalso; omega)) (fun hj2 => ?_)
      refine xo_grd rfl rfl (rd_fieldAddr rfl) rfl ?_
      refine xo_grd rfl rfl (rd_load1 rfl (Cl.o0 rfl)) rfl ?_
      refine xo_grd rfl rfl (rd_eql rfl rfl) rfl ?_
      refine xo_rd (rd_pickf rfl rfl) rfl ?_
      refine xo_rd (rd_move rfl) rfl ?_
      refine xo_dec 45 rfl (fun hj3 => (by exfalso; omega)) (fun hj3 => ?_)
      refine xo_grd rfl rfl (rd_fieldAddr rfl) rfl ?_
      refine xo_grd rfl rfl (rd_load1 rfl (Cl.o0 rfl)) rfl ?_
      refine xo_grd rfl rfl (rd_fieldAddr rfl) rfl ?_
      refine xo_grd rfl rfl (rd_load1 rfl (Cl.o0 rfl)) rfl ?_
      refine xo_grd rfl rfl (rd_eql rfl rfl) rfl ?_
      refine xo_rd (rd_pickf rfl rfl) rfl ?_
      refine xo_rd (rd_assign rfl) rfl ?_
      refine xo_nil ?_
      refine xq_seq ?_
      refine xc_dec rfl (fun hj4 => (by exfalso; omega)) (fun hj4 => ?_)
      refine xc_seq ?_
      refine xc_region ?_
      refine xo_rd (rd_move rfl) rfl ?_
      refine xo_rd (rd_fieldAddr rfl) rfl ?_
      refine xo_rd (rd_load1 rfl (Cl.o0 rfl)) rfl ?_
      refine xo_ef rfl (ef_call rfl (XF.mono (XF.seg [_] x.blks L (hpl _)) ?_))
      rintro v L' ⟨rfl, rfl⟩
      refine xo_seg [_] x.blks L ?_
      refine xo_rd (rd_geq rfl rfl) rfl ?_
      refine xo_rd (rd_assign rfl) rfl ?_
      refine xo_nil ?_
      refine xq_seq ?_
      refine xc_dec rfl (fun hj5 => ?_) (fun hj5 => ?_)
      refine xc_seq ?_
      refine xc_region ?_
      refine xo_rd (rd_assign rfl) rfl ?_
      refine xo_nil ?_
      refine xq_seq ?_
      refine xc_ret ?_
      refine xq_block_ret ?_
      refine xq_then_ret ?_
      rotate_left
      refine xc_seq ?_
      refine xc_region ?_
      refine xo_rd (rd_move rfl) rfl ?_
      refine xo_rd (rd_move rfl) rfl ?_
      refine xo_split 60 rfl (fun hj6 => ?_) (fun hj6 => ?_)
      refine xo_gskip rfl rfl rfl rfl ?_
      refine xo_rd (rd_pickt rfl rfl) rfl ?_
      refine xo_rd (rd_assign rfl) rfl ?_
      refine xo_nil ?_
      refine xq_seq ?_
      refine xc_condt rfl ?_
      refine xc_seq ?_
      refine xc_region ?_
      refine xo_rd (rd_assign rfl) rfl ?_
      refine xo_nil ?_
      refine xq_seq ?_
      refine xc_ret ?_
      refine xq_block_ret ?_
      refine xq_then_ret ?_
      rotate_left
      refine xo_grd rfl rfl (rd_move rfl) rfl ?_
      refine xo_rd (rd_pickf rfl rfl) rfl ?_
      refine xo_rd (rd_assign rfl) rfl ?_
      refine xo_nil ?_
      refine xq_seq ?_
      refine xc_cond rfl (fun hj7 => ?_) (fun hj7 => ?_)
      refine xc_seq ?_
      refine xc_region ?_
      refine xo_rd (rd_assign rfl) rfl ?_
      refine xo_nil ?_
      refine xq_seq ?_
      refine xc_ret ?_
      refine xq_block_ret ?_
      refine xq_then_ret ?_
      rotate_left
      rotate_left
    · have hg : (getId x.ms m.id).isSome = true := by
        rcases ix_cases x.ms m.id with ⟨he, _, _⟩ | ⟨i, hi, _, hg, _⟩
        · omega
        · rw [hg]; rfl
      have hE : joinR x.most x.ms m = 132 := by unfold joinR; rw [if_neg (fun h => h hr), if_pos hg]
      have hk := keep (by rw [hE]; decide)
      rw [hE]
      exact xq_tail (xq_ret1 (.inl rfl) Tryz.results78 rfl ⟨rfl, hk⟩)
    · have hg : ¬ (getId x.ms m.id).isSome = true := by
        rcases ix_cases x.ms m.id with ⟨_, hg, _⟩ | ⟨i, hi, he, _, _⟩
        · rw [hg]; decide
        · omega
      have hE : joinR x.most x.ms m = 140 := by unfold joinR; rw [if_neg (fun h => h hr), if_neg hg, if_pos (.inl hj6)]
      have hk := keep (by rw [hE]; decide)
      rw [hE]
      exact xq_tail (xq_ret1 (.inl rfl) Tryz.results78 rfl ⟨rfl, hk⟩)
    · have hg : ¬ (getId x.ms m.id).isSome = true := by
        rcases ix_cases x.ms m.id with ⟨_, hg, _⟩ | ⟨i, hi, he, _, _⟩
        · rw [hg]; decide
        · omega
      have hE : joinR x.most x.ms m = 140 := by unfold joinR; rw [if_neg (fun h => h hr), if_neg hg, if_pos (.inr hj7)]
      have hk := keep (by rw [hE]; decide)
      rw [hE]
      exact xq_tail (xq_ret1 (.inl rfl) Tryz.results78 rfl ⟨rfl, hk⟩)
    · have hg : getId x.ms m.id = none := by
        rcases ix_cases x.ms m.id with ⟨_, hg, _⟩ | ⟨i, hi, he, _, _⟩
        · exact hg
        · omega
      have hs1 : getSrc x.ms m.content = none := by simpa using hj6
      have hs2 : getSrc x.ms m.camera = none := by simpa using hj7
      have hE : joinR x.most x.ms m = if x.most ≤ x.ms.length then 131 else 0 := by
        unfold joinR; rw [if_neg (fun h => h hr), hg, hs1, hs2]; simp
      have hJ : joinL x.most x.ms m = if x.most ≤ x.ms.length then x.ms else x.ms ++ [m] := by
        unfold joinL; rw [hE]; split <;> rfl
      rw [hE, hJ]
      clear hE hJ keep hpl
      rw [Ro.blks_app]
      obtain ⟨most, ms, c, mv, ml, mb, mo, sz⟩ := x
      have hx' := hx
      obtain ⟨hO, hm, hf⟩ := hx
      dsimp only [Ro.cells] at *
      obtain ⟨p, k, rfl, hO, hk⟩ := hO.opn
      focus
        refine xc_seq ?_
        refine xc_drawML [0, 1, 2, 4, 8, 0, 32, 64, 128, 272, 512] [0, 1, 2, 4, 8, 0, 32, 64, 128, 272, 512] (by kernel_rfl) (by kernel_rfl) (by kernel_rfl) ?_
        refine xm_take 0 (m' := 1) rfl (by kernel_rfl) Sb.refl (rd_move rfl) rfl (by kernel_rfl) ?_
        refine xm_take 1 (m' := 3) rfl (by kernel_rfl) Sb.refl (rd_nilCheck rfl) rfl (by kernel_rfl) ?_
        refine xm_take 2 (m' := 7) rfl (by kernel_rfl) Sb.refl (rd_fieldAddr rfl) rfl (by kernel_rfl) ?_
        refine xm_take 3 (m' := 15) rfl (by kernel_rfl) Sb.refl (rd_load1 rfl (Cl.o1 rfl)) rfl (by kernel_rfl) ?_
        refine xm_take 4 (m' := 31) rfl (by kernel_rfl) Sb.refl (rd_len rfl) rfl (by kernel_rfl) ?_
        refine xm_take 5 (m' := 63) rfl (by kernel_rfl) Sb.refl (rd_move rfl) rfl (by kernel_rfl) ?_
        refine xm_take 6 (m' := 127) rfl (by kernel_rfl) Sb.refl (rd_nilCheck rfl) rfl (by kernel_rfl) ?_
        refine xm_take 7 (m' := 255) rfl (by kernel_rfl) Sb.refl (rd_fieldAddr rfl) rfl (by kernel_rfl) ?_
        refine xm_take 8 (m' := 511) rfl (by kernel_rfl) Sb.refl (rd_load1 rfl (Cl.o1 rfl)) rfl (by kernel_rfl) ?_
        refine xm_take 9 (m' := 1023) rfl (by kernel_rfl) Sb.refl (rd_geq rfl rfl) rfl (by kernel_rfl) ?_
        refine xm_take 10 (m' := 2047) rfl (by kernel_rfl) Sb.refl (rd_assign rfl) rfl (by kernel_rfl) ?_
        refine xm_done (by kernel_rfl) ?_
        refine xq_seq ?_
        refine xc_dec rfl (fun hl1 => ?_) (fun hl1 => ?_)
        refine xc_seq ?_
        refine xc_region ?_
        refine xo_rd (rd_assign rfl) rfl ?_
        refine xo_nil ?_
        refine xq_seq ?_
        refine xc_ret ?_
        refine xq_block_ret ?_
        refine xq_then_ret ?_
        rotate_left
        refine xc_skip ?_
        refine xq_block ?_
        refine xq_seq ?_
        rotate_left
      · rw [if_pos hl1, if_pos hl1]
        exact xq_tail (xq_ret1 (.inl rfl) Tryz.results78 rfl ⟨rfl, _, hx', rfl, rfl, rfl, by rw [Ro.blks_app]; rfl⟩)
      · rw [if_neg hl1, if_neg hl1]
        have hf' := hf.join m hr hg hs1 hs2 hl1
        refine xc_join (ι := Option Addr × Nat × List Blk) (fun s => SlO 4 49 (.slice s.1 (ms.length + 1) s.2.1) (ms.length + 1) (ms.flatMap Mb.enc ++ m.enc) s.2.2) (fun s => (r3, .cells m.enc.toArray 49 (0, 0)) :: (c, .cells [.int .i64 most, .slice s.1 (ms.length + 1) s.2.1, .map (some mb)].toArray 130 (0, 0)) :: (mb, mo) :: (s.2.2 ++ L)) (fun s => [(0, .pointer (some ⟨c, 0, none⟩)), (3, .pointer (some ⟨r3, 0, none⟩))]) ?_ ?_
        · skip
          focus
            refine xc_drawM [0, 0, 2, 4, 8, 0, 32, 80, 255, 511, 767] [0, 0, 2, 4, 8, 0, 32, 80, 255, 511, 767] [(r3, .cells m.enc.toArray 49 (0, 0))] (by kernel_rfl) (by kernel_rfl) (by kernel_rfl) ?_
            refine xm_take 0 (m' := 1) rfl (by kernel_rfl) (by first | exact Sb.refl | exact Sb.nil | (repeat (first | exact Sb.nil | exact Sb.refl | exact Sb.app0 | apply Sb.keep | apply Sb.keepApp | apply Sb.cons | apply Sb.app))) (rd_move rfl) rfl (by kernel_rfl) ?_
            refine xm_take 1 (m' := 3) rfl (by kernel_rfl) (by first | exact Sb.refl | exact Sb.nil | (repeat (first | exact Sb.nil | exact Sb.refl | exact Sb.app0 | apply Sb.keep | apply Sb.keepApp | apply Sb.cons | apply Sb.app))) (rd_move rfl) rfl (by kernel_rfl) ?_
            refine xm_take 2 (m' := 7) rfl (by kernel_rfl) (by first | exact Sb.refl | exact Sb.nil | (repeat (first | exact Sb.nil | exact Sb.refl | exact Sb.app0 | apply Sb.keep | apply Sb.keepApp | apply Sb.cons | apply Sb.app))) (rd_nilCheck rfl) rfl (by kernel_rfl) ?_
            refine xm_take 3 (m' := 15) rfl (by kernel_rfl) (by first | exact Sb.refl | exact Sb.nil | (repeat (first | exact Sb.nil | exact Sb.refl | exact Sb.app0 | apply Sb.keep | apply Sb.keepApp | apply Sb.cons | apply Sb.app))) (rd_fieldAddr rfl) rfl (by kernel_rfl) ?_
            refine xm_take 5 (m' := 47) rfl (by kernel_rfl) (by first | exact Sb.refl | exact Sb.nil | (repeat (first | exact Sb.nil | exact Sb.refl | exact Sb.app0 | apply Sb.keep | apply Sb.keepApp | apply Sb.cons | apply Sb.app))) (rd_loadB rfl Kn.o0 (by rfl)) rfl (by kernel_rfl) ?_
            refine xm_two 4 6 (mi := 63) (mk := 111) rfl rfl (by kernel_rfl) rfl rfl (by kernel_rfl) (by kernel_rfl) (ef_rd (rd_load1 rfl (Cl.o1 rfl)) ⟨(by first | exact Sb.refl | exact Sb.nil | (repeat (first | exact Sb.nil | exact Sb.refl | exact Sb.app0 | apply Sb.keep | apply Sb.keepApp | apply Sb.cons | apply Sb.app))), ?_⟩) (ef_sliceA (vs := m.enc) rfl rfl (by rw [Mb.len]; decide) (by rw [Mb.len]; decide) fun r80 => ⟨(by first | exact Sb.refl | exact Sb.nil | (repeat (first | exact Sb.nil | exact Sb.refl | exact Sb.app0 | apply Sb.keep | apply Sb.keepApp | apply Sb.cons | apply Sb.app))), ?_⟩)
            refine xm_one 6 (m' := 127) rfl (by kernel_rfl) rfl (by kernel_rfl) (ef_sliceA (vs := m.enc) rfl rfl (by rw [Mb.len]; decide) (by rw [Mb.len]; decide) fun r80 => ?_)
            refine ⟨(by first | exact Sb.refl | exact Sb.nil | (repeat (first | exact Sb.nil | exact Sb.refl | exact Sb.app0 | apply Sb.keep | apply Sb.keepApp | apply Sb.cons | apply Sb.app))), ?_⟩
            refine xm_one 7 (m' := 255) rfl (by kernel_rfl) rfl (by kernel_rfl) (ef_appendS [_, _, _, _] _ ml rfl rfl hO rfl (Rs.fresh (List.Mem.head _)) rfl rfl (by decide) (by omega) (by omega) fun q c' l' hO' hc' => ?_)
            refine ⟨(by first | exact Sb.refl | exact Sb.nil | (repeat (first | exact Sb.nil | exact Sb.refl | exact Sb.app0 | apply Sb.keep | apply Sb.keepApp | apply Sb.cons | apply Sb.app))), ?_⟩
            refine xm_take 8 (m' := 511) rfl (by kernel_rfl) (by first | exact Sb.refl | exact Sb.nil | (repeat (first | exact Sb.nil | exact Sb.refl | exact Sb.app0 | apply Sb.keep | apply Sb.keepApp | apply Sb.cons | apply Sb.app))) (rd_nilCheck rfl) rfl (by kernel_rfl) ?_
            refine xm_take 9 (m' := 1023) rfl (by kernel_rfl) (by first | exact Sb.refl | exact Sb.nil | (repeat (first | exact Sb.nil | exact Sb.refl | exact Sb.app0 | apply Sb.keep | apply Sb.keepApp | apply Sb.cons | apply Sb.app))) (rd_fieldAddr rfl) rfl (by kernel_rfl) ?_
            refine xm_one 10 (m' := 2047) rfl (by kernel_rfl) rfl (by kernel_rfl) (ef_store1 [_, _] _ rfl rfl (by first | rfl | assumption) rfl rfl rfl ?_)
            refine ⟨(by first | exact Sb.refl | exact Sb.nil | (repeat (first | exact Sb.nil | exact Sb.refl | exact Sb.app0 | apply Sb.keep | apply Sb.keepApp | apply Sb.cons | apply Sb.app))), ?_⟩
            refine xm_done (by kernel_rfl) ?_
            rotate_left
            refine xm_one 4 (m' := 127) rfl (by kernel_rfl) rfl (by kernel_rfl) (ef_rd (rd_load1 rfl (Cl.o2 rfl)) ?_)
            refine ⟨(by first | exact Sb.refl | exact Sb.nil | (repeat (first | exact Sb.nil | exact Sb.refl | exact Sb.app0 | apply Sb.keep | apply Sb.keepApp | apply Sb.cons | apply Sb.app))), ?_⟩
            refine xm_one 7 (m' := 255) rfl (by kernel_rfl) rfl (by kernel_rfl) (ef_appendS [_, _, _, _] _ ml rfl rfl hO rfl (Rs.fresh (List.Mem.head _)) rfl rfl (by decide) (by omega) (by omega) fun q c' l' hO' hc' => ?_)
            refine ⟨(by first | exact Sb.refl | exact Sb.nil | (repeat (first | exact Sb.nil | exact Sb.refl | exact Sb.app0 | apply Sb.keep | apply Sb.keepApp | apply Sb.cons | apply Sb.app))), ?_⟩
            refine xm_take 8 (m' := 511) rfl (by kernel_rfl) (by first | exact Sb.refl | exact Sb.nil | (repeat (first | exact Sb.nil | exact Sb.refl | exact Sb.app0 | apply Sb.keep | apply Sb.keepApp | apply Sb.cons | apply Sb.app))) (rd_nilCheck rfl) rfl (by kernel_rfl) ?_
            refine xm_take 9 (m' := 1023) rfl (by kernel_rfl) (by first | exact Sb.refl | exact Sb.nil | (repeat (first | exact Sb.nil | exact Sb.refl | exact Sb.app0 | apply Sb.keep | apply Sb.keepApp | apply Sb.cons | apply Sb.app))) (rd_fieldAddr rfl) rfl (by kernel_rfl) ?_
            refine xm_one 10 (m' := 2047) rfl (by kernel_rfl) rfl (by kernel_rfl) (ef_store1 [_, _] _ rfl rfl (by first | rfl | assumption) rfl rfl rfl ?_)
            refine ⟨(by first | exact Sb.refl | exact Sb.nil | (repeat (first | exact Sb.nil | exact Sb.refl | exact Sb.app0 | apply Sb.keep | apply Sb.keepApp | apply Sb.cons | apply Sb.app))), ?_⟩
            refine xm_done (by kernel_rfl) ?_
            rotate_left
          · refine xq_tail ?_
            exact xq_joined (q, c', l') hO' rfl (by repeat (first | exact keep_nil | refine keep_cons rfl ?_))
          · refine xq_tail ?_
            exact xq_joined (q, c', l') hO' rfl (by repeat (first | exact keep_nil | refine keep_cons rfl ?_))
        · rintro ⟨q, c', l'⟩ hO'
          dsimp only at hO' ⊢
          focus
            refine xc_seq ?_
            refine xc_drawM [0, 1, 2, 4, 0, 16, 0, 64, 128, 256, 0, 1024, 0, 4096, 0, 16384, 552, 65536, 209471, 473663, 524288, 2097151] [0, 1, 2, 4, 0, 16, 0, 64, 128, 256, 0, 1024, 0, 4096, 0, 16384, 552, 65536, 209471, 473663, 524288, 2097151] [(r3, .cells m.enc.toArray 49 (0, 0)), (c, .cells [.int .i64 most, .slice q (ms.length + 1) c', .map (some mb)].toArray 130 (0, 0))] (by kernel_rfl) (by kernel_rfl) (by kernel_rfl) ?_
            refine xm_take 0 (m' := 1) rfl (by kernel_rfl) (by first | exact Sb.refl | exact Sb.nil | (repeat (first | exact Sb.nil | exact Sb.refl | exact Sb.app0 | apply Sb.keep | apply Sb.keepApp | apply Sb.cons | apply Sb.app))) (rd_move rfl) rfl (by kernel_rfl) ?_
            refine xm_take 1 (m' := 3) rfl (by kernel_rfl) (by first | exact Sb.refl | exact Sb.nil | (repeat (first | exact Sb.nil | exact Sb.refl | exact Sb.app0 | apply Sb.keep | apply Sb.keepApp | apply Sb.cons | apply Sb.app))) (rd_nilCheck rfl) rfl (by kernel_rfl) ?_
            refine xm_take 2 (m' := 7) rfl (by kernel_rfl) (by first | exact Sb.refl | exact Sb.nil | (repeat (first | exact Sb.nil | exact Sb.refl | exact Sb.app0 | apply Sb.keep | apply Sb.keepApp | apply Sb.cons | apply Sb.app))) (rd_fieldAddr rfl) rfl (by kernel_rfl) ?_
            refine xm_take 3 (m' := 15) rfl (by kernel_rfl) (by first | exact Sb.refl | exact Sb.nil | (repeat (first | exact Sb.nil | exact Sb.refl | exact Sb.app0 | apply Sb.keep | apply Sb.keepApp | apply Sb.cons | apply Sb.app))) (rd_load1 rfl (Cl.o1 rfl)) rfl (by kernel_rfl) ?_
            refine xm_take 4 (m' := 31) rfl (by kernel_rfl) (by first | exact Sb.refl | exact Sb.nil | (repeat (first | exact Sb.nil | exact Sb.refl | exact Sb.app0 | apply Sb.keep | apply Sb.keepApp | apply Sb.cons | apply Sb.app))) (rd_fieldAddr rfl) rfl (by kernel_rfl) ?_
            refine xm_take 5 (m' := 63) rfl (by kernel_rfl) (by first | exact Sb.refl | exact Sb.nil | (repeat (first | exact Sb.nil | exact Sb.refl | exact Sb.app0 | apply Sb.keep | apply Sb.keepApp | apply Sb.cons | apply Sb.app))) (rd_load1 rfl (Cl.o0 rfl)) rfl (by kernel_rfl) ?_
            refine xm_take 6 (m' := 127) rfl (by kernel_rfl) (by first | exact Sb.refl | exact Sb.nil | (repeat (first | exact Sb.nil | exact Sb.refl | exact Sb.app0 | apply Sb.keep | apply Sb.keepApp | apply Sb.cons | apply Sb.app))) (rd_move rfl) rfl (by kernel_rfl) ?_
            refine xm_take 7 (m' := 255) rfl (by kernel_rfl) (by first | exact Sb.refl | exact Sb.nil | (repeat (first | exact Sb.nil | exact Sb.refl | exact Sb.app0 | apply Sb.keep | apply Sb.keepApp | apply Sb.cons | apply Sb.app))) (rd_nilCheck rfl) rfl (by kernel_rfl) ?_
            refine xm_take 8 (m' := 511) rfl (by kernel_rfl) (by first | exact Sb.refl | exact Sb.nil | (repeat (first | exact Sb.nil | exact Sb.refl | exact Sb.app0 | apply Sb.keep | apply Sb.keepApp | apply Sb.cons | apply Sb.app))) (rd_fieldAddr rfl) rfl (by kernel_rfl) ?_
            refine xm_take 9 (m' := 1023) rfl (by kernel_rfl) (by first | exact Sb.refl | exact Sb.nil | (repeat (first | exact Sb.nil | exact Sb.refl | exact Sb.app0 | apply Sb.keep | apply Sb.keepApp | apply Sb.cons | apply Sb.app))) (rd_load1 rfl (Cl.o1 rfl)) rfl (by kernel_rfl) ?_
            refine xm_take 10 (m' := 2047) rfl (by kernel_rfl) (by first | exact Sb.refl | exact Sb.nil | (repeat (first | exact Sb.nil | exact Sb.refl | exact Sb.app0 | apply Sb.keep | apply Sb.keepApp | apply Sb.cons | apply Sb.app))) (rd_fieldAddr rfl) rfl (by kernel_rfl) ?_
            refine xm_take 11 (m' := 4095) rfl (by kernel_rfl) (by first | exact Sb.refl | exact Sb.nil | (repeat (first | exact Sb.nil | exact Sb.refl | exact Sb.app0 | apply Sb.keep | apply Sb.keepApp | apply Sb.cons | apply Sb.app))) (rd_load1 rfl (Cl.o0 rfl)) rfl (by kernel_rfl) ?_
            refine xm_take 12 (m' := 8191) rfl (by kernel_rfl) (by first | exact Sb.refl | exact Sb.nil | (repeat (first | exact Sb.nil | exact Sb.refl | exact Sb.app0 | apply Sb.keep | apply Sb.keepApp | apply Sb.cons | apply Sb.app))) (rd_fieldAddr rfl) rfl (by kernel_rfl) ?_
            refine xm_take 13 (m' := 16383) rfl (by kernel_rfl) (by first | exact Sb.refl | exact Sb.nil | (repeat (first | exact Sb.nil | exact Sb.refl | exact Sb.app0 | apply Sb.keep | apply Sb.keepApp | apply Sb.cons | apply Sb.app))) (rd_load1 rfl (Cl.o0 rfl)) rfl (by kernel_rfl) ?_
            refine xm_take 14 (m' := 32767) rfl (by kernel_rfl) (by first | exact Sb.refl | exact Sb.nil | (repeat (first | exact Sb.nil | exact Sb.refl | exact Sb.app0 | apply Sb.keep | apply Sb.keepApp | apply Sb.cons | apply Sb.app))) (rd_fieldAddr rfl) rfl (by kernel_rfl) ?_
            refine xm_take 15 (m' := 65535) rfl (by kernel_rfl) (by first | exact Sb.refl | exact Sb.nil | (repeat (first | exact Sb.nil | exact Sb.refl | exact Sb.app0 | apply Sb.keep | apply Sb.keepApp | apply Sb.cons | apply Sb.app))) (rd_load1 rfl (Cl.o0 rfl)) rfl (by kernel_rfl) ?_
            refine xm_one 16 (m' := 131071) rfl (by kernel_rfl) rfl (by kernel_rfl) (ef_mapEntry [_, _] _ (by assumption) rfl rfl rfl fun str100 o' ho' => ?_)
            refine ⟨(by first | exact Sb.refl | exact Sb.nil | (repeat (first | exact Sb.nil | exact Sb.refl | exact Sb.app0 | apply Sb.keep | apply Sb.keepApp | apply Sb.cons | apply Sb.app))), ?_⟩
            refine xm_take 17 (m' := 262143) rfl (by kernel_rfl) (by first | exact Sb.refl | exact Sb.nil | (repeat (first | exact Sb.nil | exact Sb.refl | exact Sb.app0 | apply Sb.keep | apply Sb.keepApp | apply Sb.cons | apply Sb.app))) (rd_extract rfl rfl) rfl (by kernel_rfl) ?_
            refine xm_one 18 (m' := 524287) rfl (by kernel_rfl) rfl (by kernel_rfl) (ef_entryStore [_, _] _ (by assumption) rfl rfl rfl rfl fun o' ho' => ?_)
            refine ⟨(by first | exact Sb.refl | exact Sb.nil | (repeat (first | exact Sb.nil | exact Sb.refl | exact Sb.app0 | apply Sb.keep | apply Sb.keepApp | apply Sb.cons | apply Sb.app))), ?_⟩
            refine xm_one 19 (m' := 1048575) rfl (by kernel_rfl) rfl (by kernel_rfl) (ef_mapEntry [_, _] _ (by assumption) rfl rfl rfl fun str102 o' ho' => ?_)
            refine ⟨(by first | exact Sb.refl | exact Sb.nil | (repeat (first | exact Sb.nil | exact Sb.refl | exact Sb.app0 | apply Sb.keep | apply Sb.keepApp | apply Sb.cons | apply Sb.app))), ?_⟩
            refine xm_take 20 (m' := 2097151) rfl (by kernel_rfl) (by first | exact Sb.refl | exact Sb.nil | (repeat (first | exact Sb.nil | exact Sb.refl | exact Sb.app0 | apply Sb.keep | apply Sb.keepApp | apply Sb.cons | apply Sb.app))) (rd_extract rfl rfl) rfl (by kernel_rfl) ?_
            refine xm_one 21 (m' := 4194303) rfl (by kernel_rfl) rfl (by kernel_rfl) (ef_entryStore [_, _] _ (by assumption) rfl rfl rfl rfl fun o' ho' => ?_)
            refine ⟨(by first | exact Sb.refl | exact Sb.nil | (repeat (first | exact Sb.nil | exact Sb.refl | exact Sb.app0 | apply Sb.keep | apply Sb.keepApp | apply Sb.cons | apply Sb.app))), ?_⟩
            refine xm_done (by kernel_rfl) ?_
            refine xq_seq ?_
            refine xc_seq ?_
            refine xc_region ?_
            refine xo_rd (rd_assign rfl) rfl ?_
            refine xo_nil ?_
            refine xq_seq ?_
            refine xc_ret ?_
          rw [srcOf_join ms m _ _ hs1 hs2] at ho'
          exact xq_tail (xq_ret1 (.inl rfl) Tryz.results78 rfl ⟨rfl, ⟨most, ms ++ [m], c, .slice q (ms.length + 1) c', l', mb, o', _⟩, ⟨by dsimp only; rw [List.length_append, List.flatMap_append]; simpa using hO', ho', hf'⟩, rfl, rfl, rfl, by rw [Ro.blks_app]; rfl⟩)
  · have hE : joinR x.most x.ms m = 2 := by unfold joinR; rw [if_pos hr]
    have hk := keep (by rw [hE]; decide)
    rw [hE]
    focus
      refine xc_seq ?_
      refine xc_block ?_
      refine xc_seq ?_
      refine xc_region ?_
      refine xo_rd (rd_fieldAddr rfl) rfl ?_
      refine xo_rd (rd_load1 rfl (Cl.o0 rfl)) rfl ?_
      refine xo_rd (rd_lss rfl rfl) rfl ?_
      refine xo_rd (rd_move rfl) rfl ?_
      refine xo_dec 35 rfl (fun hj1 => ?_) (fun hj1 => ?_)
      refine xo_gskip rfl rfl rfl rfl ?_
      refine xo_gskip rfl rfl rfl rfl ?_
      refine xo_gskip rfl rfl rfl rfl ?_
      refine xo_rd (rd_pickt rfl rfl) rfl ?_
      refine xo_rd (rd_move rfl) rfl ?_
      refine xo_gskip rfl rfl rfl rfl ?_
      refine xo_gskip rfl rfl rfl rfl ?_
      refine xo_gskip rfl rfl rfl rfl ?_
      refine xo_rd (rd_pickt rfl rfl) rfl ?_
      refine xo_rd (rd_move rfl) rfl ?_
      refine xo_gskip rfl rfl rfl rfl ?_
      refine xo_gskip rfl rfl rfl rfl ?_
      refine xo_gskip rfl rfl rfl rfl ?_
      refine xo_gskip rfl rfl rfl rfl ?_
      refine xo_gskip rfl rfl rfl rfl ?_
      refine xo_rd (rd_pickt rfl rfl) rfl ?_
      refine xo_rd (rd_assign rfl) rfl ?_
      refine xo_nil ?_
      refine xq_seq ?_
      refine xc_condt rfl ?_
      refine xc_seq ?_
      refine xc_region ?_
      refine xo_rd (rd_assign rfl) rfl ?_
      refine xo_nil ?_
      refine xq_seq ?_
      refine xc_ret ?_
      refine xq_block_ret ?_
      refine xq_then_ret ?_
      rotate_left
      refine xo_grd rfl rfl (rd_fieldAddr rfl) rfl ?_
      refine xo_grd rfl rfl (rd_load1 rfl (Cl.o0 rfl)) rfl ?_
      refine xo_grd rfl rfl (rd_eql rfl rfl) rfl ?_
      refine xo_rd (rd_pickf rfl rfl) rfl ?_
      refine xo_rd (rd_move rfl) rfl ?_
      refine xo_dec 40 rfl (fun hj2 => ?_) (fun hj2 => ?_)
      refine xo_gskip rfl rfl rfl rfl ?_
      refine xo_gskip rfl rfl rfl rfl ?_
      refine xo_gskip rfl rfl rfl rfl ?_
      refine xo_rd (rd_pickt rfl rfl) rfl ?_
      refine xo_rd (rd_move rfl) rfl ?_
      refine xo_gskip rfl rfl rfl rfl ?_
      refine xo_gskip rfl rfl rfl rfl ?_
      refine xo_gskip rfl rfl rfl rfl ?_
      refine xo_gskip rfl rfl rfl rfl ?_
      refine xo_gskip rfl rfl rfl rfl ?_
      refine xo_rd (rd_pickt rfl rfl) rfl ?_
      refine xo_rd (rd_assign rfl) rfl ?_
      refine xo_nil ?_
      refine xq_seq ?_
      refine xc_condt rfl ?_
      refine xc_seq ?_
      refine xc_region ?_
      refine xo_rd (rd_assign rfl) rfl ?_
      refine xo_nil ?_
      refine xq_seq ?_
      refine xc_ret ?_
      refine xq_block_ret ?_
      refine xq_then_ret ?_
      rotate_left
      refine xo_grd rfl rfl (rd_fieldAddr rfl) rfl ?_
      refine xo_grd rfl rfl (rd_load1 rfl (Cl.o0 rfl)) rfl ?_
      refine xo_grd rfl rfl (rd_eql rfl rfl) rfl ?_
      refine xo_rd (rd_pickf rfl rfl) rfl ?_
      refine xo_rd (rd_move rfl) rfl ?_
      refine xo_dec 45 rfl (fun hj3 => ?_) (fun hj3 => ?_)
      refine xo_gskip rfl rfl rfl rfl ?_
      refine xo_gskip rfl rfl rfl rfl ?_
      refine xo_gskip rfl rfl rfl rfl ?_
      refine xo_gskip rfl rfl rfl rfl ?_
      refine xo_gskip rfl rfl rfl rfl ?_
      refine xo_rd (rd_pickt rfl rfl) rfl ?_
      refine xo_rd (rd_assign rfl) rfl ?_
      refine xo_nil ?_
      refine xq_seq ?_
      refine xc_condt rfl ?_
      refine xc_seq ?_
      refine xc_region ?_
      refine xo_rd (rd_assign rfl) rfl ?_
      refine xo_nil ?_
      refine xq_seq ?_
      refine xc_ret ?_
      refine xq_block_ret ?_
      refine xq_then_ret ?_
      rotate_left
      refine xo_grd rfl rfl (rd_fieldAddr rfl) rfl ?_
      refine xo_grd rfl rfl (rd_load1 rfl (Cl.o0 rfl)) rfl ?_
      refine xo_grd rfl rfl (rd_fieldAddr rfl) rfl ?_
      refine xo_grd rfl rfl (rd_load1 rfl (Cl.o0 rfl)) rfl ?_
      refine xo_grd rfl rfl (rd_eql rfl rfl) rfl ?_
      refine xo_rd (rd_pickf rfl rfl) rfl ?_
      refine xo_rd (rd_assign rfl) rfl ?_
      refine xo_nil ?_
      refine xq_seq ?_
      refine xc_dec rfl (fun hj4 => ?_) (fun hj4 => ?_)
      refine xc_seq ?_
      refine xc_region ?_
      refine xo_rd (rd_assign rfl) rfl ?_
      refine xo_nil ?_
      refine xq_seq ?_
      refine xc_ret ?_
      refine xq_block_ret ?_
      refine xq_then_ret ?_
      rotate_left
      rotate_left
    · exact xq_tail (xq_ret1 (.inl rfl) Tryz.results78 rfl ⟨rfl, hk⟩)
    · exact xq_tail (xq_ret1 (.inl rfl) Tryz.results78 rfl ⟨rfl, hk⟩)
    · exact xq_tail (xq_ret1 (.inl rfl) Tryz.results78 rfl ⟨rfl, hk⟩)
    · exact xq_tail (xq_ret1 (.inl rfl) Tryz.results78 rfl ⟨rfl, hk⟩)
    · refine absurd ?_ hr
      unfold Mb.right
      rintro (h | h | h | h)
      · exact hj1 h
      · exact hj2 h
      · exact hj3 h
      · exact hj4 h
end Go.Proofs.YtmdeajdaeihniaaGreat.X
/-
  Words of my own: what an argument that can be read holds, for the rows. No condition; generic over the program.
-/
namespace Go.Proofs.YtmdeajdaeihniaaGreat.X
open Go Go.RowKit
set_option linter.unusedVariables false
set_option linter.unusedSimpArgs false

/-- Cells of type T that can be read in W are those of some a that is good. -/
def Op' (P : Program) (W : World) (T : Nat) {α : Type} (enc : α → List Value) (Good : α → Prop) : Prop :=
  ∀ {H : Type} (encH : TypeId × Value → H) (fuel : Nat) (cs : List Value) (x : DataW H × List MemPlace), DataW.trod encH P W 0 (fun _ => true) true fuel T cs = some x → ∃ a, cs = enc a ∧ Good a

def InK (k : IntKind) (n : Int) : Prop := k.min ≤ n ∧ n ≤ k.max
theorem inK_of {k : IntKind} {n : Int} (h : (Lit.int k n).wf = true) : InK k n := by simpa [Lit.wf, InK] using h

/-- A slice's value: where, how many, and what its elements are. -/
structure SlV (α : Type) where
  p : Option Addr
  n : Nat
  c : Nat
  l : List α
def SlV.enc {α : Type} (v : SlV α) : List Value := [.slice v.p v.n v.c]
structure SlV.Good {α : Type} (W : World) (enc : α → List Value) (G : α → Prop) (v : SlV α) : Prop where
  len : v.l.length = v.n
  rs : Rs W [] v.p (v.l.flatMap enc)
  all : ∀ x, x ∈ v.l → G x
  cap : v.n ≤ v.c
  max : v.c ≤ 9223372036854775807
theorem exists_list {α : Type} {R : Nat → α → Prop} : ∀ (n : Nat), (∀ i, i < n → ∃ x, R i x) → ∃ l : List α, l.length = n ∧ ∀ (i : Nat) (x : α), l[i]? = some x → R i x
  | 0, _ => ⟨[], rfl, fun i x h => by cases h⟩
  | n + 1, h => by
    obtain ⟨l, hl, hr⟩ := exists_list n (fun i hi => h i (by omega))
    obtain ⟨x, hx⟩ := h n (by omega)
    refine ⟨l ++ [x], by simp [hl], fun i y hy => ?_⟩
    by_cases hi : i < n
    · rw [List.getElem?_append_left (by omega)] at hy; exact hr i y hy
    · rw [List.getElem?_append_right (by omega)] at hy
      have : i = n := by
        have := (List.getElem?_eq_some_iff.1 hy).1
        simp at this; omega
      subst this
      simp [hl] at hy
      subst hy; exact hx
theorem flat_at {α : Type} (enc : α → List Value) {s : Nat} (hs : ∀ x, (enc x).length = s) (h0 : 0 < s) : ∀ (l : List α) (j : Nat) (u : Value), (l.flatMap enc)[j]? = some u → ∃ x, l[j / s]? = some x ∧ (enc x)[j % s]? = some u
  | [], j, u, h => by simp at h
  | y :: r, j, u, h => by
    rw [List.flatMap_cons] at h
    by_cases hj : j < s
    · rw [List.getElem?_append_left (by rw [hs]; exact hj)] at h
      exact ⟨y, by rw [Nat.div_eq_of_lt hj]; rfl, by rw [Nat.mod_eq_of_lt hj]; exact h⟩
    · rw [List.getElem?_append_right (by rw [hs]; omega), hs] at h
      obtain ⟨x, h1, h2⟩ := flat_at enc hs h0 r (j - s) u h
      refine ⟨x, ?_, ?_⟩
      · rw [show j / s = (j - s) / s + 1 from by rw [Nat.div_eq_sub_div h0 (by omega)]]; simpa using h1
      · rw [show j % s = (j - s) % s from Nat.mod_eq_sub_mod (by omega)]; exact h2
section
variable {P : Program} {W : World}
theorem op_int {T : Nat} {k : IntKind} [h : Ik P T k] : Op' P W T (fun n : Int => [.int k n]) (InK k) := fun encH fuel cs x hx => by
  obtain ⟨n, h1, h2, h3⟩ := DataW.trod_int h.h hx
  exact ⟨n, h1, inK_of h3⟩
theorem op_bool {T : Nat} [h : Bo P T] : Op' P W T (fun b : Bool => [.bool b]) (fun _ => True) := fun encH fuel cs x hx => by
  obtain ⟨n, h1, h2⟩ := DataW.trod_bool h.h hx
  exact ⟨n, h1, trivial⟩
theorem op_slice {α : Type} {T e s : Nat} {z : Value} {bt : Nat} {enc : α → List Value} {G : α → Prop} [h : Sl P T e] [hi : Inf P e z s bt] (he : Op' P W e enc G) (hs : ∀ x, (enc x).length = s) (h0 : 0 < s) :
    Op' P W T (SlV.enc (α := α)) (SlV.Good W enc G) := fun encH fuel cs x hx => by
  have hc : P.cellsOf e = s := by
    obtain ⟨i, h1, h2, h3, h4, h5⟩ := hi.h
    simp [Program.cellsOf, h1, h3]
  rcases DataW.trod_slice h.h hx with ⟨h1, _⟩ | ⟨a, len, cap, elems, rest, m, _, h1, _, _, hl, hm, hlen, hel, _, _⟩
  · exact ⟨⟨none, 0, 0, []⟩, h1, ⟨rfl, Rs.nil, (fun _ h => by cases h), Nat.le_refl _, Nat.zero_le _⟩⟩
  · rw [hc] at hel
    have hex : ∀ i, i < len → ∃ x, W.cells? 0 (a.add (i * s)) s = some (enc x) ∧ G x := fun i hi => by
      have h2 := hel i hi
      rw [List.getElem?_eq_getElem (by omega)] at h2
      obtain ⟨ecs, h3, h4⟩ := Option.bind_eq_some_iff.1 h2
      obtain ⟨x, rfl, hg⟩ := he encH m ecs _ h4
      exact ⟨x, h3, hg⟩
    obtain ⟨l, hl1, hl2⟩ := exists_list len hex
    refine ⟨⟨some a, len, cap, l⟩, h1, ⟨hl1, ?_, ?_, hl, by unfold maxLen at hm; exact hm⟩⟩
    · intro j u hj
      have cell : ∀ j u, (l.flatMap enc)[j]? = some u → W.cell? (a.add j) = some u := fun j u hj => by
        obtain ⟨x, h2, h3⟩ := flat_at enc hs h0 l j u hj
        have h4 := (hl2 _ _ h2).1
        have h5 := (World.cells?_some h4).2.2 (j % s) (Nat.mod_lt _ h0)
        rw [h3] at h5
        have h6 : (a.add (j / s * s)).add (j % s) = a.add j := by
          have hdm : j / s * s + j % s = j := by rw [Nat.mul_comm]; exact Nat.div_add_mod j s
          obtain ⟨b, o, sp⟩ := a
          unfold Addr.add
          by_cases e1 : j / s * s = 0
          · rw [if_pos e1]
            have e2 : j % s = j := by omega
            rw [e2]
          · rw [if_neg e1, if_neg (show ¬ j = 0 by omega)]
            by_cases e2 : j % s = 0
            · rw [if_pos e2]
              have : j / s * s = j := by omega
              rw [this]
            · rw [if_neg e2]
              simp only [Addr.mk.injEq, true_and, and_true]
              omega
        rw [h6] at h5
        exact h5
      have hpos : 0 < (l.flatMap enc).length := Nat.lt_of_le_of_lt (Nat.zero_le j) (List.getElem?_eq_some_iff.1 hj).1
      have hsp : a.spot = none := by
        have := cell 0 _ (List.getElem?_eq_getElem hpos)
        have e0 : a.add 0 = a := rfl
        rw [e0] at this
        unfold World.cell? at this
        split at this
        · split at this
          · cases this
          · rename_i hh; simpa using hh
        · cases this
      obtain ⟨b, o, sp⟩ := a
      subst hsp
      refine ⟨b, o, rfl, Cl.base ?_⟩
      have := cell j u hj
      rwa [add_zero'] at this
    · intro x hx
      obtain ⟨i, hi1, hi2⟩ := List.getElem_of_mem hx
      exact (hl2 i x (by rw [List.getElem?_eq_getElem hi1, hi2])).2
/-- A struct's field. -/
theorem op_field {H : Type} {encH : TypeId × Value → H} {fuel T : Nat} {cs : List Value} {x : DataW H × List MemPlace} {fs : Array Field} (hT : P.underlying T = some (.struct fs)) (h : DataW.trod encH P W 0 (fun _ => true) true fuel T cs = some x) :
    cs.length = P.cellsOf T ∧ ∀ (i : Nat) (f : Field), fs[i]? = some f → ∃ m y, DataW.trod encH P W 0 (fun _ => true) true m f.type ((cs.drop f.offset).take (P.cellsOf f.type)) = some y := by
  obtain ⟨xs, m, _, _, h1, h2, h3⟩ := DataW.trod_struct hT h
  refine ⟨h1, fun i f hf => ⟨m, xs[i]'(by have := (Array.getElem?_eq_some_iff.1 hf).1; omega), ?_⟩⟩
  rw [h3 i f hf, List.getElem?_eq_getElem]
theorem op_field' {α : Type} {enc : α → List Value} {G : α → Prop} {T i off Tf s : Nat} {z : Value} {bt : Nat} [hF : Fd P T i off Tf] [hi : Inf P Tf z s bt] (he : Op' P W Tf enc G) {H : Type} {encH : TypeId × Value → H} {fuel : Nat} {cs : List Value} {x : DataW H × List MemPlace}
    (h : DataW.trod encH P W 0 (fun _ => true) true fuel T cs = some x) : ∃ a, (cs.drop off).take s = enc a ∧ G a := by
  obtain ⟨fs, f, h1, h2, h3, h4⟩ := hF.h
  have hc : P.cellsOf Tf = s := by
    obtain ⟨i, h1, h2, h3, h4, h5⟩ := hi.h
    simp [Program.cellsOf, h1, h3]
  obtain ⟨_, h5⟩ := op_field h1 h
  obtain ⟨m, y, h6⟩ := h5 i f h2
  rw [h3, h4, hc] at h6
  exact he encH m _ y h6
theorem op_len {T s : Nat} {z : Value} {bt i off Tf : Nat} [hF : Fd P T i off Tf] [hi : Inf P T z s bt] {H : Type} {encH : TypeId × Value → H} {fuel : Nat} {cs : List Value} {x : DataW H × List MemPlace}
    (h : DataW.trod encH P W 0 (fun _ => true) true fuel T cs = some x) : cs.length = s := by
  obtain ⟨fs, f, h1, h2, h3, h4⟩ := hF.h
  have hc : P.cellsOf T = s := by
    obtain ⟨i, h1, h2, h3, h4, h5⟩ := hi.h
    simp [Program.cellsOf, h1, h3]
  rw [← hc]
  exact (op_field h1 h).1
/-- The argument's value itself. -/
theorem top_one {α : Type} {T : Nat} {enc : α → List Value} {G : α → Prop} (he : Op' P W T enc G) {H : Type} {encH : TypeId × Value → H} {v : Value} {d : DataW H} {ps : List MemPlace} (h : DataW.Trod encH P W 0 (fun _ => true) true T v d ps) (h1 : v.cells.toList = [v]) : ∃ a, [v] = enc a ∧ G a := by
  obtain ⟨fuel, hf⟩ := h
  rw [h1] at hf
  exact he encH fuel _ _ hf
theorem top_agg {α : Type} {T : Nat} {enc : α → List Value} {G : α → Prop} (he : Op' P W T enc G) {H : Type} {encH : TypeId × Value → H} {cs : Array Value} {d : DataW H} {ps : List MemPlace} (h : DataW.Trod encH P W 0 (fun _ => true) true T (.agg cs) d ps) : ∃ a, cs = (enc a).toArray ∧ G a := by
  obtain ⟨fuel, hf⟩ := h
  obtain ⟨a, h1, h2⟩ := he encH fuel _ _ hf
  refine ⟨a, ?_, h2⟩
  have h3 : cs.toList = enc a := h1
  rw [← h3]
end
end Go.Proofs.YtmdeajdaeihniaaGreat.X
/-
  A roster that is not there: walks of my own.
-/
namespace Go.Proofs.YtmdeajdaeihniaaGreat.X
open Go Go.RowKit
set_option linter.unusedVariables false
set_option linter.unusedSimpArgs false
end Go.Proofs.YtmdeajdaeihniaaGreat.X
