/-
  Texts of my own, put together: walks and laws for this seat. No condition.
-/
import Derived.Test.YtmdeajdaeihniaaGreatN6
import Derived.Test.YtmdeajdaeihniaaGreatN1
import Derived.ProofKit
import Derived.OpenShut
import Derived.ShutString
import Derived.ChangeOld
import Derived.Carry
/-
  The roster's Source, Ids, Leave and Join, by walks of my own.
-/
namespace Go.Proofs.YtmdeajdaeihniaaGreat.X
open Go Go.RowKit
set_option linter.unusedVariables false
set_option linter.unusedSimpArgs false
theorem getSrc_none {l : List Mb} {s : Int} : getSrc l s = none ↔ s ∉ srcs l := by
  unfold getSrc srcs
  rw [List.find?_eq_none]
  constructor
  · intro h hm
    obtain ⟨m, hm, hs⟩ := List.mem_flatMap.1 hm
    have := h m hm
    simp only [Mb.src, List.mem_cons, List.not_mem_nil, or_false] at this hs
    rcases hs with rfl | rfl <;> simp at this
  · intro h m hm hs
    refine h (List.mem_flatMap.2 ⟨m, hm, ?_⟩)
    simp only [Mb.src, Bool.or_eq_true, beq_iff_eq] at hs
    rcases hs with rfl | rfl <;> simp
theorem getSrc_some {l : List Mb} {s : Int} {m : Mb} (h : getSrc l s = some m) : m ∈ l ∧ m.src s = true := ⟨List.mem_of_find?_eq_some h, by have := List.find?_some (p := fun m : Mb => m.src s) h; exact this⟩
theorem getId_mem {l : List Mb} {m : Mb} (hn : (l.map Mb.id).Nodup) (hm : m ∈ l) : getId l m.id = some m := by
  obtain ⟨i, hi, rfl⟩ := List.getElem_of_mem hm
  unfold getId
  rw [List.find?_eq_some_iff_getElem]
  refine ⟨by simp, i, hi, rfl, fun j hj => ?_⟩
  have hd := List.pairwise_iff_getElem.1 hn j i (by simpa using (by omega : j < l.length)) (by simpa using hi) hj
  simp only [List.getElem_map] at hd
  simpa using hd
theorem getId_none {l : List Mb} {id : Int} (h : getId l id = none) : id ∉ l.map Mb.id := fun hm => by
  obtain ⟨m, hm', rfl⟩ := List.mem_map.1 hm
  have := List.find?_eq_none.1 h m hm'
  simp at this
theorem xf_source_none {W : World} {L : List Blk} (x : Ro) (hx : x.Ok) (s : Int) (h : getSrc x.ms s = none) : XF Tryz.prog W 86 #[.pointer (some ⟨x.c, 0, none⟩), .int .u32 s] (x.blks ++ L) (fun v L' => v = .tuple #[.agg (Mb.mk 0 0 0 false).enc.toArray, .bool false, .bool false] ∧ L' = x.blks ++ L) := by
  have hm := hx.map
  have hsn : srcOf x.ms s = none := by unfold srcOf; rw [h]; rfl
  rw [Ro.blks_app]
  refine xf_enter (args := [_, _]) Tryz.func86 rfl Tryz.ntmps86 rfl ?_
  focus
    refine xc_seq ?_
    refine xc_region ?_
    refine xo_ef rfl (ef_alloc fun r4 => ?_)
    refine xo_rd (rd_assign rfl) rfl ?_
    refine xo_rd (rd_assign rfl) rfl ?_
    refine xo_nil ?_
    refine xq_seq ?_
    refine xc_seq ?_
    refine xc_seq ?_
    refine xc_region ?_
    refine xo_rd (rd_move rfl) rfl ?_
    refine xo_rd (rd_eqnil rfl) rfl ?_
    refine xo_nil ?_
    refine xq_seq ?_
    refine xc_condf rfl ?_
    refine xc_skip ?_
    refine xq_seq ?_
    refine xc_seq ?_
    refine xc_region ?_
    refine xo_rd (rd_move rfl) rfl ?_
    refine xo_rd (rd_nilCheck rfl) rfl ?_
    refine xo_rd (rd_fieldAddr rfl) rfl ?_
    refine xo_rd (rd_load1 rfl (Cl.o1 rfl)) rfl ?_
    refine xo_rd (rd_move rfl) rfl ?_
    refine xo_rd (rd_lookupOk (by assumption) rfl rfl Kn.o2) rfl ?_
    refine xo_rd (rd_move rfl) rfl ?_
    refine xo_rd (rd_extract rfl rfl) rfl ?_
    refine xo_rd (rd_extract rfl rfl) rfl ?_
    refine xo_rd (rd_assign rfl) rfl ?_
    refine xo_rd (rd_assign rfl) rfl ?_
    refine xo_nil ?_
    refine xq_seq ?_
    refine xc_seq ?_
    refine xc_seq ?_
    refine xc_region ?_
    refine xo_rd (rd_move rfl) rfl ?_
    refine xo_rd (rd_not rfl) rfl ?_
    refine xo_nil ?_
    refine xq_seq ?_
  rw [hsn]
  focus
    refine xc_condt rfl ?_
    refine xc_seq ?_
    refine xc_region ?_
    refine xo_rd (rd_build rfl rfl rfl) rfl ?_
    refine xo_ef rfl (ef_storeB [] _ rfl rfl (by first | rfl | assumption) rfl rfl rfl ?_)
    refine xo_rd (rd_assign rfl) rfl ?_
    refine xo_rd (rd_assign rfl) rfl ?_
    refine xo_nil ?_
    refine xq_seq ?_
    refine xc_ret ?_
    refine xq_then_ret ?_
  exact xq_retB3 (.inl rfl) Tryz.results86 rfl rfl rfl Kn.o0 rfl (List.sublist_cons_self _ _) ⟨rfl, rfl⟩
theorem xf_source_some {W : World} {L : List Blk} (x : Ro) (hx : x.Ok) (s : Int) (m : Mb) (h : getSrc x.ms s = some m) : XF Tryz.prog W 86 #[.pointer (some ⟨x.c, 0, none⟩), .int .u32 s] (x.blks ++ L) (fun v L' => v = .tuple #[.agg m.enc.toArray, .bool (decide (m.content = s)), .bool true] ∧ L' = x.blks ++ L) := by
  have hm := hx.map
  have hsn : srcOf x.ms s = some (.int .i64 m.id) := by unfold srcOf; rw [h]; rfl
  have hg : getId x.ms m.id = some m := getId_mem hx.fit.ids (getSrc_some h).1
  refine xf_enter (args := [_, _]) Tryz.func86 rfl Tryz.ntmps86 rfl ?_
  rw [Ro.blks_app]
  focus
    refine xc_seq ?_
    refine xc_region ?_
    refine xo_ef rfl (ef_alloc fun r4 => ?_)
    refine xo_rd (rd_assign rfl) rfl ?_
    refine xo_rd (rd_assign rfl) rfl ?_
    refine xo_nil ?_
    refine xq_seq ?_
    refine xc_seq ?_
    refine xc_seq ?_
    refine xc_region ?_
    refine xo_rd (rd_move rfl) rfl ?_
    refine xo_rd (rd_eqnil rfl) rfl ?_
    refine xo_nil ?_
    refine xq_seq ?_
    refine xc_condf rfl ?_
    refine xc_skip ?_
    refine xq_seq ?_
    refine xc_seq ?_
    refine xc_region ?_
    refine xo_rd (rd_move rfl) rfl ?_
    refine xo_rd (rd_nilCheck rfl) rfl ?_
    refine xo_rd (rd_fieldAddr rfl) rfl ?_
    refine xo_rd (rd_load1 rfl (Cl.o1 rfl)) rfl ?_
    refine xo_rd (rd_move rfl) rfl ?_
    refine xo_rd (rd_lookupOk (by assumption) rfl rfl Kn.o2) rfl ?_
    refine xo_rd (rd_move rfl) rfl ?_
    refine xo_rd (rd_extract rfl rfl) rfl ?_
    refine xo_rd (rd_extract rfl rfl) rfl ?_
    refine xo_rd (rd_assign rfl) rfl ?_
    refine xo_rd (rd_assign rfl) rfl ?_
    refine xo_nil ?_
    refine xq_seq ?_
    refine xc_seq ?_
    refine xc_seq ?_
    refine xc_region ?_
    refine xo_rd (rd_move rfl) rfl ?_
    refine xo_rd (rd_not rfl) rfl ?_
    refine xo_nil ?_
    refine xq_seq ?_
  rw [hsn]
  focus
    refine xc_condf rfl ?_
    refine xc_skip ?_
    refine xq_seq ?_
    refine xc_seq ?_
    refine xc_region ?_
    refine xo_rd (rd_move rfl) rfl ?_
    refine xo_rd (rd_move rfl) rfl ?_
  rw [← Ro.blks_app]
  refine xo_ef rfl (ef_call rfl (XF.mono (XF.seg [_] x.blks L (xf_get x hx m.id)) ?_))
  rintro v L' ⟨rfl, rfl⟩
  rw [hg]
  refine xo_seg [_] x.blks L ?_
  focus
    refine xo_rd (rd_move rfl) rfl ?_
    refine xo_rd (rd_extract rfl rfl) rfl ?_
    refine xo_rd (rd_extract rfl rfl) rfl ?_
    refine xo_ef rfl (ef_storeB [] _ rfl rfl (by first | rfl | assumption) rfl rfl rfl ?_)
    refine xo_nil ?_
    refine xq_seq ?_
    refine xc_seq ?_
    refine xc_drawML [0, 0, 0, 4, 0, 0, 32, 0, 128, 344, 514, 495, 4095, 8191] [0, 0, 0, 4, 0, 0, 32, 0, 128, 344, 514, 495, 4095, 8191] (by kernel_rfl) (by kernel_rfl) (by kernel_rfl) ?_
    refine xm_take 0 (m' := 1) rfl (by kernel_rfl) Sb.refl (rd_loadB rfl Kn.o0 (by rfl)) rfl (by kernel_rfl) ?_
    refine xm_take 1 (m' := 3) rfl (by kernel_rfl) Sb.refl (rd_loadB rfl Kn.o0 (by rfl)) rfl (by kernel_rfl) ?_
    refine xm_take 2 (m' := 7) rfl (by kernel_rfl) Sb.refl (rd_fieldAddr rfl) rfl (by kernel_rfl) ?_
    refine xm_take 3 (m' := 15) rfl (by kernel_rfl) Sb.refl (rd_load1 rfl (Cl.o0 rfl)) rfl (by kernel_rfl) ?_
    refine xm_take 4 (m' := 31) rfl (by kernel_rfl) Sb.refl (rd_move rfl) rfl (by kernel_rfl) ?_
    refine xm_take 5 (m' := 63) rfl (by kernel_rfl) Sb.refl (rd_fieldAddr rfl) rfl (by kernel_rfl) ?_
    refine xm_take 6 (m' := 127) rfl (by kernel_rfl) Sb.refl (rd_load1 rfl (Cl.o0 rfl)) rfl (by kernel_rfl) ?_
    refine xm_take 7 (m' := 255) rfl (by kernel_rfl) Sb.refl (rd_fieldAddr rfl) rfl (by kernel_rfl) ?_
    refine xm_take 8 (m' := 511) rfl (by kernel_rfl) Sb.refl (rd_load1 rfl (Cl.o0 rfl)) rfl (by kernel_rfl) ?_
    refine xm_take 9 (m' := 1023) rfl (by kernel_rfl) Sb.refl (rd_build rfl rfl rfl) rfl (by kernel_rfl) ?_
    refine xm_take 10 (m' := 2047) rfl (by kernel_rfl) Sb.refl (rd_eqMb34 (a := m) (b := ⟨m.id, s, m.camera, m.mod⟩) rfl rfl) rfl (by kernel_rfl) ?_
    refine xm_one 11 (m' := 4095) rfl (by kernel_rfl) rfl (by kernel_rfl) (ef_storeB [] _ rfl rfl (by first | rfl | assumption) rfl rfl rfl ?_)
    refine ⟨Sb.refl, ?_⟩
    refine xm_take 12 (m' := 8191) rfl (by kernel_rfl) Sb.refl (rd_assign rfl) rfl (by kernel_rfl) ?_
    refine xm_take 13 (m' := 16383) rfl (by kernel_rfl) Sb.refl (rd_assign rfl) rfl (by kernel_rfl) ?_
    refine xm_done (by kernel_rfl) ?_
    refine xq_seq ?_
    refine xc_ret ?_
  have hd : decide (m = ⟨m.id, s, m.camera, m.mod⟩) = decide (m.content = s) := by
    obtain ⟨a0, a1, a2, a3⟩ := m
    rw [Bool.eq_iff_iff]
    simp
  exact xq_retB3 (.inl rfl) Tryz.results86 rfl rfl rfl Kn.o0 rfl (List.sublist_cons_self _ _) ⟨by rw [hd]; rfl, rfl⟩
theorem xf_ids {W : World} {L : List Blk} (x : Ro) (hx : x.Ok) : XF Tryz.prog W 87 #[.pointer (some ⟨x.c, 0, none⟩)] (x.blks ++ L) (fun v L' => ∃ p k l, v = .slice p x.ms.length k ∧ SlO 1 3 (.slice p x.ms.length k) x.ms.length (ints .i64 (x.ms.map Mb.id)) l ∧ L' = l ++ (x.blks ++ L)) := by
  have hl := hx.fit.len
  have hl2 := hx.fit.most
  refine xf_enter (args := [_]) Tryz.func87 rfl Tryz.ntmps87 rfl ?_
  focus
    refine xc_seq ?_
    refine xc_region ?_
    refine xo_rd (rd_assign rfl) rfl ?_
    refine xo_nil ?_
    refine xq_seq ?_
    refine xc_seq ?_
    refine xc_seq ?_
    refine xc_region ?_
    refine xo_rd (rd_move rfl) rfl ?_
  refine xo_ef rfl (ef_call rfl (XF.mono (xf_all x hx) ?_))
  rintro v L' ⟨p, k, l, rfl, hO, hk, rfl⟩
  focus
    refine xo_rd (rd_len rfl) rfl ?_
    refine xo_rd (rd_move rfl) rfl ?_
    refine xo_nil ?_
    refine xq_seq ?_
    refine xc_block ?_
  refine xc_loopI (ι := Nat × Value × List Blk) (fun s => s.1 ≤ x.ms.length ∧ SlO 1 3 s.2.1 s.1 (ints .i64 ((x.ms.take s.1).map Mb.id)) s.2.2) (fun s => x.ms.length - s.1) (fun s => s.2.2 ++ (l ++ (x.blks ++ L))) (fun s => [(2, s.2.1), (6, .slice p x.ms.length k), (7, .int .i64 x.ms.length), (8, .int .i64 s.1)]) (0, .slice none 0 0, []) ⟨Nat.zero_le _, SlO.nil⟩ rfl (by repeat (first | exact keep_nil | refine keep_cons rfl ?_)) ?_
  rintro ⟨i, v, lo⟩ ⟨hi, hOo⟩
  dsimp only at hi hOo ⊢
  focus
    refine xc_seq ?_
    refine xc_region ?_
    refine xo_rd (rd_lss rfl rfl) rfl ?_
    refine xo_nil ?_
    refine xq_seq ?_
    refine xc_seq ?_
    refine xc_dec rfl (fun hi1 => ?_) (fun hi1 => ?_)
    refine xc_skip ?_
    refine xq_seq ?_
    refine xc_seq ?_
    refine xc_block ?_
    refine xc_seq ?_
    refine xc_region ?_
    rotate_left
    refine xc_exit ?_
    refine xq_then_exit ?_
    refine xq_then_exit ?_
    refine xq_block_hit ?_
    refine xq_seq ?_
    refine xc_seq ?_
    refine xc_region ?_
    refine xo_rd (rd_move rfl) rfl ?_
    refine xo_rd (rd_assign rfl) rfl ?_
    refine xo_nil ?_
    refine xq_seq ?_
    refine xc_ret ?_
    rotate_left
  · have hil : i < x.ms.length := by omega
    obtain ⟨b, o, rfl, hc⟩ := (hO.rs (W := W) (L := lo ++ (l ++ (x.blks ++ L))) (by intro z hz; simp [hz])).row Mb.len (by decide) hil
    have ht : (x.ms.take (i + 1)).map Mb.id = (x.ms.take i).map Mb.id ++ [x.ms[i].id] := by
      rw [List.take_add_one, List.getElem?_eq_getElem hil, List.map_append]; rfl
    focus
      refine xo_rd (rd_indexAddr rfl rfl (by omega) (by omega)) rfl ?_
      refine xo_rd (rd_loadA (vs := x.ms[i].enc) rfl rfl hc) rfl ?_
      refine xo_ef rfl (ef_alloc fun r4 => ?_)
      refine xo_ef rfl (ef_storeB [] _ rfl rfl (by first | rfl | assumption) rfl rfl rfl ?_)
      refine xo_nil ?_
      refine xq_seq ?_
      refine xc_region ?_
      refine xo_rd (rd_move rfl) rfl ?_
      refine xo_rd (rd_fieldAddr rfl) rfl ?_
      refine xo_rd (rd_load1 rfl (Cl.o0 rfl)) rfl ?_
      refine xo_ef rfl (ef_slice1 rfl rfl rfl fun r15 => ?_)
    refine xo_ef rfl (ef_append [_, _] _ lo rfl rfl hOo rfl (Rs.fresh (List.Mem.head _)) rfl rfl (by decide) (by omega) (by omega) fun v' lo' hO' => ?_)
    refine xo_tail (xo_tail ?_)
    focus
      refine xo_rd (rd_assign rfl) rfl ?_
      refine xo_nil ?_
      refine xq_block ?_
      refine xq_seq ?_
      refine xc_region ?_
      refine xo_rd (rd_addn rfl rfl (by omega) (by omega)) rfl ?_
      refine xo_rd (rd_move rfl) rfl ?_
      refine xo_nil ?_
    exact xq_roundI (i + 1, v', lo') ⟨by dsimp only; omega, by dsimp only; rw [ht, ints_app]; exact hO'⟩ (by dsimp only; omega) rfl (by repeat (first | exact keep_nil | refine keep_cons rfl ?_))
  · have hil : i = x.ms.length := by omega
    subst hil
    rw [List.take_length] at hOo
    obtain ⟨po, ko, rfl, hOo, _⟩ := hOo.opn
    refine xq_sub (L' := lo ++ (x.blks ++ L)) ((List.Sublist.refl _).append (List.sublist_append_right _ _)) ?_
    exact xq_ret1 (.inl rfl) Tryz.results87 rfl ⟨po, ko, lo, rfl, hOo, rfl⟩
theorem srcs_app (a b : List Mb) : srcs (a ++ b) = srcs a ++ srcs b := by simp [srcs]
theorem getSrc_app (a b : List Mb) (s : Int) : getSrc (a ++ b) s = (getSrc a s).or (getSrc b s) := by unfold getSrc; rw [List.find?_append]
/-- One member leaves: what the map is to tell. -/
theorem srcOf_leave (l : List Mb) (i : Nat) (hi : i < l.length) (hn : (srcs l).Nodup) : mupd (mupd (srcOf l) l[i].content none) l[i].camera none = srcOf (l.eraseIdx i) := by
  have hl : l = l.take i ++ l[i] :: l.drop (i + 1) := by rw [List.getElem_cons_drop, List.take_append_drop]
  have he : l.eraseIdx i = l.take i ++ l.drop (i + 1) := List.eraseIdx_eq_take_drop_succ l i
  rw [he]
  generalize l[i] = m at *
  generalize l.take i = a at *
  generalize l.drop (i + 1) = b at *
  subst hl
  rw [srcs_app, show srcs (m :: b) = m.content :: m.camera :: srcs b from rfl] at hn
  have h1 := List.nodup_append.1 hn
  have h2 := List.nodup_cons.1 h1.2.1
  have h3 := List.nodup_cons.1 h2.2
  funext s
  unfold mupd srcOf
  rw [getSrc_app, getSrc_app]
  have hc : getSrc (m :: b) s = if m.src s = true then some m else getSrc b s := by
    unfold getSrc; rw [List.find?_cons]; cases m.src s <;> rfl
  rw [hc]
  by_cases c1 : s = m.camera
  · subst c1
    have e1 : getSrc a m.camera = none := getSrc_none.2 fun h => h1.2.2 _ h _ (by simp) rfl
    have e2 : getSrc b m.camera = none := getSrc_none.2 h3.1
    rw [if_pos rfl, e1, e2]; rfl
  · by_cases c2 : s = m.content
    · subst c2
      have e1 : getSrc a m.content = none := getSrc_none.2 fun h => h1.2.2 _ h _ (by simp) rfl
      have e2 : getSrc b m.content = none := getSrc_none.2 fun h => h2.1 (List.mem_cons_of_mem _ h)
      rw [if_neg c1, if_pos rfl, e1, e2]; rfl
    · have e : ¬ m.src s = true := by
        unfold Mb.src
        simp only [Bool.or_eq_true, beq_iff_eq, not_or]
        exact ⟨fun e => c2 e.symm, fun e => c1 e.symm⟩
      rw [if_neg c1, if_neg c2, if_neg e]
theorem srcs_sub {a b : List Mb} (h : a.Sublist b) : (srcs a).Sublist (srcs b) := by
  unfold srcs
  induction h with
  | slnil => exact List.Sublist.refl _
  | cons a _ ih => rw [List.flatMap_cons]; exact ih.trans (List.sublist_append_right _ _)
  | cons_cons a _ ih => rw [List.flatMap_cons, List.flatMap_cons]; exact (List.Sublist.refl _).append ih
theorem Fit.leave {most : Int} {l : List Mb} (h : Fit most l) (i : Nat) : Fit most (l.eraseIdx i) := by
  have hs := List.eraseIdx_sublist l i
  refine ⟨h.ids.sublist (hs.map _), h.src.sublist ?_, fun m hm => h.right m (hs.subset hm), ?_, h.most⟩
  · exact srcs_sub hs
  · have := hs.length_le; have := h.len; omega
theorem flat_eraseM (l : List Mb) (i : Nat) (hi : i < l.length) : (l.flatMap Mb.enc).take (i * 4) ++ (l.flatMap Mb.enc).drop ((i + 1) * 4) = (l.eraseIdx i).flatMap Mb.enc := by
  have hl : l = l.take i ++ l[i] :: l.drop (i + 1) := by rw [List.getElem_cons_drop, List.take_append_drop]
  have e1 : ((l.take i).flatMap Mb.enc).length = i * 4 := by rw [flat_length Mb.enc Mb.len, List.length_take, Nat.min_eq_left (by omega)]
  have e2 : ((l.take i).flatMap Mb.enc ++ Mb.enc l[i]).length = (i + 1) * 4 := by rw [List.length_append, e1, Mb.len]; omega
  have e3 : l.flatMap Mb.enc = (l.take i).flatMap Mb.enc ++ Mb.enc l[i] ++ (l.drop (i + 1)).flatMap Mb.enc := by
    conv => lhs; rw [hl]
    rw [List.flatMap_append, List.flatMap_cons, List.append_assoc]
  have e4 : ((l.take i).flatMap Mb.enc ++ Mb.enc l[i] ++ (l.drop (i + 1)).flatMap Mb.enc).take (i * 4) = (l.take i).flatMap Mb.enc := by rw [List.append_assoc, List.take_left' e1]
  rw [e3, List.drop_left' e2, e4, List.eraseIdx_eq_take_drop_succ, List.flatMap_append]
theorem xf_leave {W : World} {L : List Blk} (x : Ro) (hx : x.Ok) (id : Int) : XF Tryz.prog W 63 #[.pointer (some ⟨x.c, 0, none⟩), .int .i64 id] (x.blks ++ L) (fun v L' => v = .int .i64 (leaveR x.ms id) ∧ ∃ y : Ro, y.Ok ∧ y.c = x.c ∧ y.most = x.most ∧ y.ms = leaveL x.ms id ∧ L' = y.blks ++ L) := by
  refine xf_enter (args := [_, _]) Tryz.func63 rfl Tryz.ntmps63 rfl ?_
  rcases ix_cases x.ms id with ⟨he, hg, hlv⟩ | ⟨i, hi, he, hg, hid, hlv⟩
  · have hpl : ∀ L, XF Tryz.prog W 89 #[.pointer (some ⟨x.c, 0, none⟩), .int .i64 id] (x.blks ++ L) (fun v L' => v = .int .i64 (-1) ∧ L' = x.blks ++ L) := fun L => by have := xf_place (W := W) (L := L) x hx id; rw [he] at this; exact this
    focus
      refine xc_seq ?_
      refine xc_region ?_
      refine xo_rd (rd_assign rfl) rfl ?_
      refine xo_nil ?_
      refine xq_seq ?_
      refine xc_seq ?_
      refine xc_seq ?_
      refine xc_region ?_
      refine xo_rd (rd_move rfl) rfl ?_
      refine xo_rd (rd_eqnil rfl) rfl ?_
      refine xo_nil ?_
      refine xq_seq ?_
      refine xc_condf rfl ?_
      refine xc_skip ?_
      refine xq_seq ?_
      refine xc_seq ?_
      refine xc_region ?_
      refine xo_rd (rd_move rfl) rfl ?_
      refine xo_rd (rd_move rfl) rfl ?_
      refine xo_ef rfl (ef_call rfl (XF.mono (hpl _) ?_))
      rintro v L' ⟨rfl, rfl⟩
      refine xo_rd (rd_assign rfl) rfl ?_
      refine xo_nil ?_
      refine xq_seq ?_
      refine xc_seq ?_
      refine xc_seq ?_
      refine xc_region ?_
      refine xo_rd (rd_move rfl) rfl ?_
      refine xo_rd (rd_lss rfl rfl) rfl ?_
      refine xo_nil ?_
      refine xq_seq ?_
      refine xc_condt rfl ?_
      refine xc_seq ?_
      refine xc_region ?_
      refine xo_rd (rd_assign rfl) rfl ?_
      refine xo_nil ?_
      refine xq_seq ?_
      refine xc_ret ?_
      refine xq_then_ret ?_
    exact xq_ret1 (.inl rfl) Tryz.results63 rfl ⟨by unfold leaveR; rw [hg]; rfl, x, hx, rfl, rfl, hlv.symm, rfl⟩
  · have hpl : ∀ L, XF Tryz.prog W 89 #[.pointer (some ⟨x.c, 0, none⟩), .int .i64 id] (x.blks ++ L) (fun v L' => v = .int .i64 i ∧ L' = x.blks ++ L) := fun L => by have := xf_place (W := W) (L := L) x hx id; rw [he] at this; exact this
    focus
      refine xc_seq ?_
      refine xc_region ?_
      refine xo_rd (rd_assign rfl) rfl ?_
      refine xo_nil ?_
      refine xq_seq ?_
      refine xc_seq ?_
      refine xc_seq ?_
      refine xc_region ?_
      refine xo_rd (rd_move rfl) rfl ?_
      refine xo_rd (rd_eqnil rfl) rfl ?_
      refine xo_nil ?_
      refine xq_seq ?_
      refine xc_condf rfl ?_
      refine xc_skip ?_
      refine xq_seq ?_
      refine xc_seq ?_
      refine xc_region ?_
      refine xo_rd (rd_move rfl) rfl ?_
      refine xo_rd (rd_move rfl) rfl ?_
      refine xo_ef rfl (ef_call rfl (XF.mono (hpl _) ?_))
      rintro v L' ⟨rfl, rfl⟩
      refine xo_rd (rd_assign rfl) rfl ?_
      refine xo_nil ?_
      refine xq_seq ?_
      refine xc_seq ?_
      refine xc_seq ?_
      refine xc_region ?_
      refine xo_rd (rd_move rfl) rfl ?_
      refine xo_rd (rd_lss rfl rfl) rfl ?_
      refine xo_nil ?_
      refine xq_seq ?_
      refine xc_condf rfl ?_
      refine xc_skip ?_
      refine xq_seq ?_
    have hE : leaveR x.ms id = 0 := by unfold leaveR; rw [hg]; rfl
    rw [hE, hlv]
    rw [Ro.blks_app]
    clear hpl
    obtain ⟨most, ms, c, mv, ml, mb, mo, sz⟩ := x
    obtain ⟨hO, hm, hf⟩ := hx
    dsimp only [Ro.cells] at *
    obtain ⟨p, k, rfl, hO, hk⟩ := hO.opn
    have hl := hf.len
    have hl2 := hf.most
    have hi' : i < ms.length := hi
    have hrx : Rs W ((c, .cells [.int .i64 most, .slice p ms.length k, .map (some mb)].toArray 130 (0, 0)) :: ml) p (ms.flatMap Mb.enc) := hO.rs (by intro z hz; simp [hz])
    obtain ⟨b, o, hp, hc⟩ := hrx.row Mb.len (by decide) hi
    subst hp
    focus
      refine xc_seq ?_
      refine xc_drawM [0, 1, 2, 4, 0, 16, 32, 64, 0, 384, 512, 1024, 2056] [0, 1, 2, 4, 0, 16, 32, 64, 0, 384, 512, 1024, 2056] ((c, .cells [.int .i64 most, .slice (some ⟨b, o, none⟩) ms.length k, .map (some mb)].toArray 130 (0, 0)) :: ml) (by kernel_rfl) (by kernel_rfl) (by kernel_rfl) ?_
      refine xm_take 0 (m' := 1) rfl (by kernel_rfl) Sb.a (rd_move rfl) rfl (by kernel_rfl) ?_
      refine xm_take 1 (m' := 3) rfl (by kernel_rfl) Sb.a (rd_nilCheck rfl) rfl (by kernel_rfl) ?_
      refine xm_take 2 (m' := 7) rfl (by kernel_rfl) Sb.a (rd_fieldAddr rfl) rfl (by kernel_rfl) ?_
      refine xm_take 3 (m' := 15) rfl (by kernel_rfl) Sb.a (rd_load1 rfl (Cl.o0 rfl)) rfl (by kernel_rfl) ?_
      refine xm_take 4 (m' := 31) rfl (by kernel_rfl) Sb.a (rd_move rfl) rfl (by kernel_rfl) ?_
      refine xm_take 5 (m' := 63) rfl (by kernel_rfl) Sb.a (rd_nilCheck rfl) rfl (by kernel_rfl) ?_
      refine xm_take 6 (m' := 127) rfl (by kernel_rfl) Sb.a (rd_fieldAddr rfl) rfl (by kernel_rfl) ?_
      refine xm_take 7 (m' := 255) rfl (by kernel_rfl) Sb.a (rd_load1 rfl (Cl.o0 rfl)) rfl (by kernel_rfl) ?_
      refine xm_take 8 (m' := 511) rfl (by kernel_rfl) Sb.a (rd_move rfl) rfl (by kernel_rfl) ?_
      refine xm_take 9 (m' := 1023) rfl (by kernel_rfl) Sb.a (rd_indexAddr rfl rfl (by omega) (by omega)) rfl (by kernel_rfl) ?_
      refine xm_take 10 (m' := 2047) rfl (by kernel_rfl) Sb.a (rd_fieldAddr rfl) rfl (by kernel_rfl) ?_
      refine xm_take 11 (m' := 4095) rfl (by kernel_rfl) Sb.a (rd_load1 rfl (hc 1 _ rfl)) rfl (by kernel_rfl) ?_
      refine xm_one 12 (m' := 8191) rfl (by kernel_rfl) rfl (by kernel_rfl) (ef_delete [_] _ (by assumption) rfl rfl rfl fun o' ho' => ?_)
      refine ⟨Sb.a, ?_⟩
      refine xm_done (by kernel_rfl) ?_
      refine xq_seq ?_
      refine xc_seq ?_
      refine xc_drawM [0, 1, 2, 4, 0, 16, 32, 64, 0, 384, 512, 1024, 2056] [0, 1, 2, 4, 0, 16, 32, 64, 0, 384, 512, 1024, 2056] ((c, .cells [.int .i64 most, .slice (some ⟨b, o, none⟩) ms.length k, .map (some mb)].toArray 130 (0, 0)) :: ml) (by kernel_rfl) (by kernel_rfl) (by kernel_rfl) ?_
      refine xm_take 0 (m' := 1) rfl (by kernel_rfl) Sb.a (rd_move rfl) rfl (by kernel_rfl) ?_
      refine xm_take 1 (m' := 3) rfl (by kernel_rfl) Sb.a (rd_nilCheck rfl) rfl (by kernel_rfl) ?_
      refine xm_take 2 (m' := 7) rfl (by kernel_rfl) Sb.a (rd_fieldAddr rfl) rfl (by kernel_rfl) ?_
      refine xm_take 3 (m' := 15) rfl (by kernel_rfl) Sb.a (rd_load1 rfl (Cl.o0 rfl)) rfl (by kernel_rfl) ?_
      refine xm_take 4 (m' := 31) rfl (by kernel_rfl) Sb.a (rd_move rfl) rfl (by kernel_rfl) ?_
      refine xm_take 5 (m' := 63) rfl (by kernel_rfl) Sb.a (rd_nilCheck rfl) rfl (by kernel_rfl) ?_
      refine xm_take 6 (m' := 127) rfl (by kernel_rfl) Sb.a (rd_fieldAddr rfl) rfl (by kernel_rfl) ?_
      refine xm_take 7 (m' := 255) rfl (by kernel_rfl) Sb.a (rd_load1 rfl (Cl.o0 rfl)) rfl (by kernel_rfl) ?_
      refine xm_take 8 (m' := 511) rfl (by kernel_rfl) Sb.a (rd_move rfl) rfl (by kernel_rfl) ?_
      refine xm_take 9 (m' := 1023) rfl (by kernel_rfl) Sb.a (rd_indexAddr rfl rfl (by omega) (by omega)) rfl (by kernel_rfl) ?_
      refine xm_take 10 (m' := 2047) rfl (by kernel_rfl) Sb.a (rd_fieldAddr rfl) rfl (by kernel_rfl) ?_
      refine xm_take 11 (m' := 4095) rfl (by kernel_rfl) Sb.a (rd_load1 rfl (hc 2 _ rfl)) rfl (by kernel_rfl) ?_
      refine xm_one 12 (m' := 8191) rfl (by kernel_rfl) rfl (by kernel_rfl) (ef_delete [_] _ (by assumption) rfl rfl rfl fun o' ho' => ?_)
      refine ⟨Sb.a, ?_⟩
      refine xm_done (by kernel_rfl) ?_
      refine xq_seq ?_
      refine xc_seq ?_
      refine xc_region ?_
      refine xo_rd (rd_move rfl) rfl ?_
      refine xo_rd (rd_move rfl) rfl ?_
      refine xo_rd (rd_nilCheck rfl) rfl ?_
      refine xo_rd (rd_fieldAddr rfl) rfl ?_
      refine xo_rd (rd_load1 rfl (Cl.o0 rfl)) rfl ?_
      refine xo_rd (rd_move rfl) rfl ?_
      refine xo_rd (rd_move rfl) rfl ?_
      refine xo_rd (rd_addn rfl rfl (by omega) (by omega)) rfl ?_
    have e1 : ms[i].content = ms[i].content := rfl
    refine xo_ef rfl (ef_call rfl ((XF.seg [_, _] ml _ (xf_delete _ _ i _ ml hO (Mb.one _) hi' (by omega))).mono ?_))
    rintro v L' ⟨p', c', l', rfl, hO', rfl⟩
    refine xo_seg [_, _] l' _ ?_
    focus
      refine xo_rd (rd_nilCheck rfl) rfl ?_
      refine xo_rd (rd_fieldAddr rfl) rfl ?_
      refine xo_ef rfl (ef_store1 [] _ rfl rfl (by first | rfl | assumption) rfl rfl rfl ?_)
      refine xo_nil ?_
      refine xq_seq ?_
      refine xc_seq ?_
      refine xc_region ?_
      refine xo_rd (rd_assign rfl) rfl ?_
      refine xo_nil ?_
      refine xq_seq ?_
      refine xc_ret ?_
    rw [flat_eraseM ms i hi'] at hO'
    have hle : (ms.eraseIdx i).length = ms.length - 1 := by rw [List.length_eraseIdx, if_pos hi']
    rw [← hle] at hO'
    rw [srcOf_leave ms i hi' hf.src] at ho'
    exact xq_ret1 (.inl rfl) Tryz.results63 rfl ⟨rfl, ⟨most, ms.eraseIdx i, c, .slice p' (ms.eraseIdx i).length c', l', mb, o', _⟩, ⟨hO', ho', hf.leave i⟩, rfl, rfl, rfl, by rw [Ro.blks_app, hle]; rfl⟩
/-- One member joins: what the map is to tell. -/
theorem srcOf_join (l : List Mb) (m : Mb) (v1 v2 : Value) (h1 : getSrc l m.content = none) (h2 : getSrc l m.camera = none) : mupd (mupd (mupd (mupd (srcOf l) m.content (some v1)) m.content (some (.int .i64 m.id))) m.camera (some v2)) m.camera (some (.int .i64 m.id)) = srcOf (l ++ [m]) := by
  funext s
  unfold mupd srcOf
  rw [getSrc_app]
  have hc : getSrc [m] s = if m.src s = true then some m else none := by
    unfold getSrc; rw [List.find?_cons, List.find?_nil]; cases m.src s <;> rfl
  rw [hc]
  by_cases c1 : s = m.camera
  · subst c1
    have : m.src m.camera = true := by simp [Mb.src]
    rw [if_pos rfl, h2, if_pos this]; rfl
  · by_cases c2 : s = m.content
    · subst c2
      have : m.src m.content = true := by simp [Mb.src]
      rw [if_neg c1, if_neg c1, if_pos rfl, h1, if_pos this]; rfl
    · have e : ¬ m.src s = true := by
        unfold Mb.src
        simp only [Bool.or_eq_true, beq_iff_eq, not_or]
        exact ⟨fun e => c2 e.symm, fun e => c1 e.symm⟩
      rw [if_neg c1, if_neg c1, if_neg c2, if_neg c2, if_neg e]
      cases getSrc l s <;> rfl
theorem Fit.join {most : Int} {l : List Mb} (h : Fit most l) (m : Mb) (hr : m.right) (hi : getId l m.id = none) (h1 : getSrc l m.content = none) (h2 : getSrc l m.camera = none) (hlen : ¬ most ≤ l.length) : Fit most (l ++ [m]) := by
  refine ⟨?_, ?_, fun z hz => ?_, ?_, h.most⟩
  · rw [List.map_append]
    refine List.nodup_append.2 ⟨h.ids, by simp, fun a ha b hb e => ?_⟩
    simp only [List.map_cons, List.map_nil, List.mem_singleton] at hb
    subst hb; subst e
    exact getId_none hi ha
  · rw [srcs_app]
    refine List.nodup_append.2 ⟨h.src, ?_, fun a ha b hb e => ?_⟩
    · show [m.content, m.camera].Nodup
      unfold Mb.right at hr
      simp only [List.nodup_cons, List.mem_singleton, List.not_mem_nil, not_false_eq_true, List.nodup_nil, and_true]
      exact fun e => hr (.inr (.inr (.inr e)))
    · have hb' : b = m.content ∨ b = m.camera := by simpa [srcs] using hb
      subst e
      rcases hb' with rfl | rfl
      · exact getSrc_none.1 h1 ha
      · exact getSrc_none.1 h2 ha
  · rcases List.mem_append.1 hz with hz | hz
    · exact h.right z hz
    · rw [List.mem_singleton] at hz; subst hz; exact hr
  · rw [List.length_append]; simp only [List.length_cons, List.length_nil]; omega
theorem isSome_src {l : List Mb} {s : Int} : (srcOf l s).isSome = (getSrc l s).isSome := by unfold srcOf; rw [Option.isSome_map]
set_option maxHeartbeats 8000000 in
theorem xf_join {W : World} {L : List Blk} (x : Ro) (hx : x.Ok) (m : Mb) : XF Tryz.prog W 78 #[.pointer (some ⟨x.c, 0, none⟩), .agg m.enc.toArray] (x.blks ++ L) (fun v L' => v = .int .i64 (joinR x.most x.ms m) ∧ ∃ y : Ro, y.Ok ∧ y.c = x.c ∧ y.most = x.most ∧ y.ms = joinL x.most x.ms m ∧ L' = y.blks ++ L) := by
  have keep : joinR x.most x.ms m ≠ 0 → (∃ y : Ro, y.Ok ∧ y.c = x.c ∧ y.most = x.most ∧ y.ms = joinL x.most x.ms m ∧ x.blks ++ L = y.blks ++ L) := fun h => ⟨x, hx, rfl, rfl, by unfold joinL; rw [if_neg h], rfl⟩
  have hm := hx.map
  have hlm := hx.fit.len
  have hmost := hx.fit.most
  have hpl : ∀ L, XF Tryz.prog W 89 #[.pointer (some ⟨x.c, 0, none⟩), .int .i64 m.id] (x.blks ++ L) (fun v L' => v = .int .i64 (ixOf (x.ms.map Mb.id) m.id) ∧ L' = x.blks ++ L) := fun L => xf_place x hx m.id
  refine xf_enter (args := [_, _]) Tryz.func78 rfl Tryz.ntmps78 rfl ?_
  rw [Ro.blks_app]
  focus
    refine xc_seq ?_
    refine xc_region ?_
    refine xo_ef rfl (ef_box rfl fun r3 => ?_)
    refine xo_rd (rd_assign rfl) rfl ?_
    refine xo_nil ?_
    refine xq_seq ?_
    refine xc_seq ?_
    refine xc_seq ?_
    refine xc_region ?_
    refine xo_rd (rd_move rfl) rfl ?_
    refine xo_rd (rd_eqnil rfl) rfl ?_
    refine xo_nil ?_
    refine xq_seq ?_
    refine xc_condf rfl ?_
    refine xc_skip ?_
    refine xq_seq ?_
    refine xc_seq ?_
    refine xc_drawML [0, 1, 2, 4, 0, 16, 40, 64, 128, 128, 511, 2047] [0, 1, 2, 4, 0, 16, 40, 64, 128, 128, 511, 2047] (by kernel_rfl) (by kernel_rfl) (by kernel_rfl) ?_
    refine xm_take 0 (m' := 1) rfl (by kernel_rfl) Sb.refl (rd_move rfl) rfl (by kernel_rfl) ?_
    refine xm_take 1 (m' := 3) rfl (by kernel_rfl) Sb.refl (rd_nilCheck rfl) rfl (by kernel_rfl) ?_
    refine xm_take 2 (m' := 7) rfl (by kernel_rfl) Sb.refl (rd_fieldAddr rfl) rfl (by kernel_rfl) ?_
    refine xm_take 3 (m' := 15) rfl (by kernel_rfl) Sb.refl (rd_load1 rfl (Cl.o1 rfl)) rfl (by kernel_rfl) ?_
    refine xm_take 4 (m' := 31) rfl (by kernel_rfl) Sb.refl (rd_fieldAddr rfl) rfl (by kernel_rfl) ?_
    refine xm_take 5 (m' := 63) rfl (by kernel_rfl) Sb.refl (rd_load1 rfl (Cl.o0 rfl)) rfl (by kernel_rfl) ?_
    refine xm_take 6 (m' := 127) rfl (by kernel_rfl) Sb.refl (rd_lookupOk (by assumption) rfl rfl Kn.o2) rfl (by kernel_rfl) ?_
    refine xm_take 7 (m' := 255) rfl (by kernel_rfl) Sb.refl (rd_move rfl) rfl (by kernel_rfl) ?_
    refine xm_take 8 (m' := 511) rfl (by kernel_rfl) Sb.refl (rd_extract rfl rfl) rfl (by kernel_rfl) ?_
    refine xm_take 9 (m' := 1023) rfl (by kernel_rfl) Sb.refl (rd_extract rfl rfl) rfl (by kernel_rfl) ?_
    refine xm_take 10 (m' := 2047) rfl (by kernel_rfl) Sb.refl (rd_assign rfl) rfl (by kernel_rfl) ?_
    refine xm_take 11 (m' := 4095) rfl (by kernel_rfl) Sb.refl (rd_assign rfl) rfl (by kernel_rfl) ?_
    refine xm_done (by kernel_rfl) ?_
    refine xq_seq ?_
    refine xc_seq ?_
    refine xc_drawML [0, 1, 2, 4, 0, 16, 40, 64, 128, 128, 511, 2047] [0, 1, 2, 4, 0, 16, 40, 64, 128, 128, 511, 2047] (by kernel_rfl) (by kernel_rfl) (by kernel_rfl) ?_
    refine xm_take 0 (m' := 1) rfl (by kernel_rfl) Sb.refl (rd_move rfl) rfl (by kernel_rfl) ?_
    refine xm_take 1 (m' := 3) rfl (by kernel_rfl) Sb.refl (rd_nilCheck rfl) rfl (by kernel_rfl) ?_
    refine xm_take 2 (m' := 7) rfl (by kernel_rfl) Sb.refl (rd_fieldAddr rfl) rfl (by kernel_rfl) ?_
    refine xm_take 3 (m' := 15) rfl (by kernel_rfl) Sb.refl (rd_load1 rfl (Cl.o1 rfl)) rfl (by kernel_rfl) ?_
    refine xm_take 4 (m' := 31) rfl (by kernel_rfl) Sb.refl (rd_fieldAddr rfl) rfl (by kernel_rfl) ?_
    refine xm_take 5 (m' := 63) rfl (by kernel_rfl) Sb.refl (rd_load1 rfl (Cl.o0 rfl)) rfl (by kernel_rfl) ?_
    refine xm_take 6 (m' := 127) rfl (by kernel_rfl) Sb.refl (rd_lookupOk (by assumption) rfl rfl Kn.o2) rfl (by kernel_rfl) ?_
    refine xm_take 7 (m' := 255) rfl (by kernel_rfl) Sb.refl (rd_move rfl) rfl (by kernel_rfl) ?_
    refine xm_take 8 (m' := 511) rfl (by kernel_rfl) Sb.refl (rd_extract rfl rfl) rfl (by kernel_rfl) ?_
    refine xm_take 9 (m' := 1023) rfl (by kernel_rfl) Sb.refl (rd_extract rfl rfl) rfl (by kernel_rfl) ?_
    refine xm_take 10 (m' := 2047) rfl (by kernel_rfl) Sb.refl (rd_assign rfl) rfl (by kernel_rfl) ?_
    refine xm_take 11 (m' := 4095) rfl (by kernel_rfl) Sb.refl (rd_assign rfl) rfl (by kernel_rfl) ?_
    refine xm_done (by kernel_rfl) ?_
    refine xq_seq ?_
  rw [← Ro.blks_app]
  rw [isSome_src, isSome_src]
  by_cases hr : m.right
  · have hr' := hr
    unfold Mb.right at hr'
    have r1 : ¬ m.id < 0 := fun h => hr' (.inl h)
    have r2 : ¬ m.content = 0 := fun h => hr' (.inr (.inl h))
    have r3' : ¬ m.camera = 0 := fun h => hr' (.inr (.inr (.inl h)))
    have r4 : ¬ m.content = m.camera := fun h => hr' (.inr (.inr (.inr h)))
    focus
      refine xc_seq ?_
      refine xc_block ?_
      refine xc_seq ?_
      refine xc_region ?_
      refine xo_rd (rd_fieldAddr rfl) rfl ?_
      refine xo_rd (rd_load1 rfl (Cl.o0 rfl)) rfl ?_
      refine xo_rd (rd_lss rfl rfl) rfl ?_
      refine xo_rd (rd_move rfl) rfl ?_
      refine xo_dec 35 rfl (fun hj1 => (by exfalso; omega)) (fun hj1 => ?_)
      refine xo_grd rfl rfl (rd_fieldAddr rfl) rfl ?_
      refine xo_grd rfl rfl (rd_load1 rfl (Cl.o0 rfl)) rfl ?_
      refine xo_grd rfl rfl (rd_eql rfl rfl) rfl ?_
      refine xo_rd (rd_pickf rfl rfl) rfl ?_
      refine xo_rd (rd_move rfl) rfl ?_
      refine xo_dec 40 rfl (fun hj2 => (by exfalso; omega)) (fun hj2 => ?_)
      refine xo_grd rfl rfl (rd_fieldAddr rfl) rfl ?_
      refine xo_grd rfl rfl (rd_load1 rfl (Cl.o0 rfl)) rfl ?_
      refine xo_grd rfl rfl (rd_eql rfl rfl) rfl ?_
      refine xo_rd (rd_pickf rfl rfl) rfl ?_
      refine xo_rd (rd_move rfl) rfl ?_
      refine xo_dec 45 rfl (fun hj3 => (by exfalso; omega)) (fun hj3 => ?_)
      refine xo_grd rfl rfl (rd_fieldAddr rfl) rfl ?_
      refine xo_grd rfl rfl (rd_load1 rfl (Cl.o0 rfl)) rfl ?_
      refine xo_grd rfl rfl (rd_fieldAddr rfl) rfl ?_
      refine xo_grd rfl rfl (rd_load1 rfl (Cl.o0 rfl)) rfl ?_
      refine xo_grd rfl rfl (rd_eql rfl rfl) rfl ?_
      refine xo_rd (rd_pickf rfl rfl) rfl ?_
      refine xo_rd (rd_assign rfl) rfl ?_
      refine xo_nil ?_
      refine xq_seq ?_
      refine xc_dec rfl (fun hj4 => (by exfalso; omega)) (fun hj4 => ?_)
      refine xc_seq ?_
      refine xc_region ?_
      refine xo_rd (rd_move rfl) rfl ?_
      refine xo_rd (rd_fieldAddr rfl) rfl ?_
      refine xo_rd (rd_load1 rfl (Cl.o0 rfl)) rfl ?_
      refine xo_ef rfl (ef_call rfl (XF.mono (XF.seg [_] x.blks L (hpl _)) ?_))
      rintro v L' ⟨rfl, rfl⟩
      refine xo_seg [_] x.blks L ?_
      refine xo_rd (rd_geq rfl rfl) rfl ?_
      refine xo_rd (rd_assign rfl) rfl ?_
      refine xo_nil ?_
      refine xq_seq ?_
      refine xc_dec rfl (fun hj5 => ?_) (fun hj5 => ?_)
      refine xc_seq ?_
      refine xc_region ?_
      refine xo_rd (rd_assign rfl) rfl ?_
      refine xo_nil ?_
      refine xq_seq ?_
      refine xc_ret ?_
      refine xq_block_ret ?_
      refine xq_then_ret ?_
      rotate_left
      refine xc_seq ?_
      refine xc_region ?_
      refine xo_rd (rd_move rfl) rfl ?_
      refine xo_rd (rd_move rfl) rfl ?_
      refine xo_split 60 rfl (fun hj6 => ?_) (fun hj6 => ?_)
      refine xo_gskip rfl rfl rfl rfl ?_
      refine xo_rd (rd_pickt rfl rfl) rfl ?_
      refine xo_rd (rd_assign rfl) rfl ?_
      refine xo_nil ?_
      refine xq_seq ?_
      refine xc_condt rfl ?_
      refine xc_seq ?_
      refine xc_region ?_
      refine xo_rd (rd_assign rfl) rfl ?_
      refine xo_nil ?_
      refine xq_seq ?_
      refine xc_ret ?_
      refine xq_block_ret ?_
      refine xq_then_ret ?_
      rotate_left
      refine xo_grd rfl rfl (rd_move rfl) rfl ?_
      refine xo_rd (rd_pickf rfl rfl) rfl ?_
      refine xo_rd (rd_assign rfl) rfl ?_
      refine xo_nil ?_
      refine xq_seq ?_
      refine xc_cond rfl (fun hj7 => ?_) (fun hj7 => ?_)
      refine xc_seq ?_
      refine xc_region ?_
      refine xo_rd (rd_assign rfl) rfl ?_
      refine xo_nil ?_
      refine xq_seq ?_
      refine xc_ret ?_
      refine xq_block_ret ?_
      refine xq_then_ret ?_
      rotate_left
      rotate_left
    · have hg : (getId x.ms m.id).isSome = true := by
        rcases ix_cases x.ms m.id with ⟨he, _, _⟩ | ⟨i, hi, _, hg, _⟩
        · omega
        · rw [hg]; rfl
      have hE : joinR x.most x.ms m = 132 := by unfold joinR; rw [if_neg (fun h => h hr), if_pos hg]
      have hk := keep (by rw [hE]; decide)
      rw [hE]
      exact xq_tail (xq_ret1 (.inl rfl) Tryz.results78 rfl ⟨rfl, hk⟩)
    · have hg : ¬ (getId x.ms m.id).isSome = true := by
        rcases ix_cases x.ms m.id with ⟨_, hg, _⟩ | ⟨i, hi, he, _, _⟩
        · rw [hg]; decide
        · omega
      have hE : joinR x.most x.ms m = 140 := by unfold joinR; rw [if_neg (fun h => h hr), if_neg hg, if_pos (.inl hj6)]
      have hk := keep (by rw [hE]; decide)
      rw [hE]
      exact xq_tail (xq_ret1 (.inl rfl) Tryz.results78 rfl ⟨rfl, hk⟩)
    · have hg : ¬ (getId x.ms m.id).isSome = true := by
        rcases ix_cases x.ms m.id with ⟨_, hg, _⟩ | ⟨i, hi, he, _, _⟩
        · rw [hg]; decide
        · omega
      have hE : joinR x.most x.ms m = 140 := by unfold joinR; rw [if_neg (fun h => h hr), if_neg hg, if_pos (.inr hj7)]
      have hk := keep (by rw [hE]; decide)
      rw [hE]
      exact xq_tail (xq_ret1 (.inl rfl) Tryz.results78 rfl ⟨rfl, hk⟩)
    · have hg : getId x.ms m.id = none := by
        rcases ix_cases x.ms m.id with ⟨_, hg, _⟩ | ⟨i, hi, he, _, _⟩
        · exact hg
        · omega
      have hs1 : getSrc x.ms m.content = none := by simpa using hj6
      have hs2 : getSrc x.ms m.camera = none := by simpa using hj7
      have hE : joinR x.most x.ms m = if x.most ≤ x.ms.length then 131 else 0 := by
        unfold joinR; rw [if_neg (fun h => h hr), hg, hs1, hs2]; simp
      have hJ : joinL x.most x.ms m = if x.most ≤ x.ms.length then x.ms else x.ms ++ [m] := by
        unfold joinL; rw [hE]; split <;> rfl
      rw [hE, hJ]
      clear hE hJ keep hpl
      rw [Ro.blks_app]
      obtain ⟨most, ms, c, mv, ml, mb, mo, sz⟩ := x
      have hx' := hx
      obtain ⟨hO, hm, hf⟩ := hx
      dsimp only [Ro.cells] at *
      obtain ⟨p, k, rfl, hO, hk⟩ := hO.opn
      focus
        refine xc_seq ?_
        refine xc_drawML [0, 1, 2, 4, 8, 0, 32, 64, 128, 272, 512] [0, 1, 2, 4, 8, 0, 32, 64, 128, 272, 512] (by kernel_rfl) (by kernel_rfl) (by kernel_rfl) ?_
        refine xm_take 0 (m' := 1) rfl (by kernel_rfl) Sb.refl (rd_move rfl) rfl (by kernel_rfl) ?_
        refine xm_take 1 (m' := 3) rfl (by kernel_rfl) Sb.refl (rd_nilCheck rfl) rfl (by kernel_rfl) ?_
        refine xm_take 2 (m' := 7) rfl (by kernel_rfl) Sb.refl (rd_fieldAddr rfl) rfl (by kernel_rfl) ?_
        refine xm_take 3 (m' := 15) rfl (by kernel_rfl) Sb.refl (rd_load1 rfl (Cl.o1 rfl)) rfl (by kernel_rfl) ?_
        refine xm_take 4 (m' := 31) rfl (by kernel_rfl) Sb.refl (rd_len rfl) rfl (by kernel_rfl) ?_
        refine xm_take 5 (m' := 63) rfl (by kernel_rfl) Sb.refl (rd_move rfl) rfl (by kernel_rfl) ?_
        refine xm_take 6 (m' := 127) rfl (by kernel_rfl) Sb.refl (rd_nilCheck rfl) rfl (by kernel_rfl) ?_
        refine xm_take 7 (m' := 255) rfl (by kernel_rfl) Sb.refl (rd_fieldAddr rfl) rfl (by kernel_rfl) ?_
        refine xm_take 8 (m' := 511) rfl (by kernel_rfl) Sb.refl (rd_load1 rfl (Cl.o1 rfl)) rfl (by kernel_rfl) ?_
        refine xm_take 9 (m' := 1023) rfl (by kernel_rfl) Sb.refl (rd_geq rfl rfl) rfl (by kernel_rfl) ?_
        refine xm_take 10 (m' := 2047) rfl (by kernel_rfl) Sb.refl (rd_assign rfl) rfl (by kernel_rfl) ?_
        refine xm_done (by kernel_rfl) ?_
        refine xq_seq ?_
        refine xc_dec rfl (fun hl1 => ?_) (fun hl1 => ?_)
        refine xc_seq ?_
        refine xc_region ?_
        refine xo_rd (rd_assign rfl) rfl ?_
        refine xo_nil ?_
        refine xq_seq ?_
        refine xc_ret ?_
        refine xq_block_ret ?_
        refine xq_then_ret ?_
        rotate_left
        refine xc_skip ?_
        refine xq_block ?_
        refine xq_seq ?_
        rotate_left
      · rw [if_pos hl1, if_pos hl1]
        exact xq_tail (xq_ret1 (.inl rfl) Tryz.results78 rfl ⟨rfl, _, hx', rfl, rfl, rfl, by rw [Ro.blks_app]; rfl⟩)
      · rw [if_neg hl1, if_neg hl1]
        have hf' := hf.join m hr hg hs1 hs2 hl1
        refine xc_join (ι := Option Addr × Nat × List Blk) (fun s => SlO 4 49 (.slice s.1 (ms.length + 1) s.2.1) (ms.length + 1) (ms.flatMap Mb.enc ++ m.enc) s.2.2) (fun s => (r3, .cells m.enc.toArray 49 (0, 0)) :: (c, .cells [.int .i64 most, .slice s.1 (ms.length + 1) s.2.1, .map (some mb)].toArray 130 (0, 0)) :: (mb, mo) :: (s.2.2 ++ L)) (fun s => [(0, .pointer (some ⟨c, 0, none⟩)), (3, .pointer (some ⟨r3, 0, none⟩))]) ?_ ?_
        · skip
          focus
            refine xc_drawM [0, 0, 2, 4, 8, 0, 32, 80, 255, 511, 767] [0, 0, 2, 4, 8, 0, 32, 80, 255, 511, 767] [(r3, .cells m.enc.toArray 49 (0, 0))] (by kernel_rfl) (by kernel_rfl) (by kernel_rfl) ?_
            refine xm_take 0 (m' := 1) rfl (by kernel_rfl) Sb.a (rd_move rfl) rfl (by kernel_rfl) ?_
            refine xm_take 1 (m' := 3) rfl (by kernel_rfl) Sb.a (rd_move rfl) rfl (by kernel_rfl) ?_
            refine xm_take 2 (m' := 7) rfl (by kernel_rfl) Sb.a (rd_nilCheck rfl) rfl (by kernel_rfl) ?_
            refine xm_take 3 (m' := 15) rfl (by kernel_rfl) Sb.a (rd_fieldAddr rfl) rfl (by kernel_rfl) ?_
            refine xm_take 5 (m' := 47) rfl (by kernel_rfl) Sb.a (rd_loadB rfl Kn.o0 (by rfl)) rfl (by kernel_rfl) ?_
            refine xm_two 4 6 (mi := 63) (mk := 111) rfl rfl (by kernel_rfl) rfl rfl (by kernel_rfl) (by kernel_rfl) (ef_rd (rd_load1 rfl (Cl.o1 rfl)) ⟨Sb.a, ?_⟩) (ef_sliceA (vs := m.enc) rfl rfl (by rw [Mb.len]; decide) (by rw [Mb.len]; decide) fun r80 => ⟨Sb.a, ?_⟩)
            refine xm_one 6 (m' := 127) rfl (by kernel_rfl) rfl (by kernel_rfl) (ef_sliceA (vs := m.enc) rfl rfl (by rw [Mb.len]; decide) (by rw [Mb.len]; decide) fun r80 => ?_)
            refine ⟨Sb.a, ?_⟩
            refine xm_one 7 (m' := 255) rfl (by kernel_rfl) rfl (by kernel_rfl) (ef_appendS [_, _, _, _] _ ml rfl rfl hO rfl (Rs.fresh (List.Mem.head _)) rfl rfl (by decide) (by omega) (by omega) fun q c' l' hO' hc' => ?_)
            refine ⟨Sb.a, ?_⟩
            refine xm_take 8 (m' := 511) rfl (by kernel_rfl) Sb.a (rd_nilCheck rfl) rfl (by kernel_rfl) ?_
            refine xm_take 9 (m' := 1023) rfl (by kernel_rfl) Sb.a (rd_fieldAddr rfl) rfl (by kernel_rfl) ?_
            refine xm_one 10 (m' := 2047) rfl (by kernel_rfl) rfl (by kernel_rfl) (ef_store1 [_, _] _ rfl rfl (by first | rfl | assumption) rfl rfl rfl ?_)
            refine ⟨Sb.a, ?_⟩
            refine xm_done (by kernel_rfl) ?_
            rotate_left
            refine xm_one 4 (m' := 127) rfl (by kernel_rfl) rfl (by kernel_rfl) (ef_rd (rd_load1 rfl (Cl.o2 rfl)) ?_)
            refine ⟨Sb.a, ?_⟩
            refine xm_one 7 (m' := 255) rfl (by kernel_rfl) rfl (by kernel_rfl) (ef_appendS [_, _, _, _] _ ml rfl rfl hO rfl (Rs.fresh (List.Mem.head _)) rfl rfl (by decide) (by omega) (by omega) fun q c' l' hO' hc' => ?_)
            refine ⟨Sb.a, ?_⟩
            refine xm_take 8 (m' := 511) rfl (by kernel_rfl) Sb.a (rd_nilCheck rfl) rfl (by kernel_rfl) ?_
            refine xm_take 9 (m' := 1023) rfl (by kernel_rfl) Sb.a (rd_fieldAddr rfl) rfl (by kernel_rfl) ?_
            refine xm_one 10 (m' := 2047) rfl (by kernel_rfl) rfl (by kernel_rfl) (ef_store1 [_, _] _ rfl rfl (by first | rfl | assumption) rfl rfl rfl ?_)
            refine ⟨Sb.a, ?_⟩
            refine xm_done (by kernel_rfl) ?_
            rotate_left
          · refine xq_tail ?_
            exact xq_joined (q, c', l') hO' rfl (by repeat (first | exact keep_nil | refine keep_cons rfl ?_))
          · refine xq_tail ?_
            exact xq_joined (q, c', l') hO' rfl (by repeat (first | exact keep_nil | refine keep_cons rfl ?_))
        · rintro ⟨q, c', l'⟩ hO'
          dsimp only at hO' ⊢
          focus
            refine xc_seq ?_
            refine xc_drawM [0, 1, 2, 4, 0, 16, 0, 64, 128, 256, 0, 1024, 0, 4096, 0, 16384, 552, 65536, 209471, 473663, 524288, 2097151] [0, 1, 2, 4, 0, 16, 0, 64, 128, 256, 0, 1024, 0, 4096, 0, 16384, 552, 65536, 209471, 473663, 524288, 2097151] [(r3, .cells m.enc.toArray 49 (0, 0)), (c, .cells [.int .i64 most, .slice q (ms.length + 1) c', .map (some mb)].toArray 130 (0, 0))] (by kernel_rfl) (by kernel_rfl) (by kernel_rfl) ?_
            refine xm_take 0 (m' := 1) rfl (by kernel_rfl) Sb.a (rd_move rfl) rfl (by kernel_rfl) ?_
            refine xm_take 1 (m' := 3) rfl (by kernel_rfl) Sb.a (rd_nilCheck rfl) rfl (by kernel_rfl) ?_
            refine xm_take 2 (m' := 7) rfl (by kernel_rfl) Sb.a (rd_fieldAddr rfl) rfl (by kernel_rfl) ?_
            refine xm_take 3 (m' := 15) rfl (by kernel_rfl) Sb.a (rd_load1 rfl (Cl.o1 rfl)) rfl (by kernel_rfl) ?_
            refine xm_take 4 (m' := 31) rfl (by kernel_rfl) Sb.a (rd_fieldAddr rfl) rfl (by kernel_rfl) ?_
            refine xm_take 5 (m' := 63) rfl (by kernel_rfl) Sb.a (rd_load1 rfl (Cl.o0 rfl)) rfl (by kernel_rfl) ?_
            refine xm_take 6 (m' := 127) rfl (by kernel_rfl) Sb.a (rd_move rfl) rfl (by kernel_rfl) ?_
            refine xm_take 7 (m' := 255) rfl (by kernel_rfl) Sb.a (rd_nilCheck rfl) rfl (by kernel_rfl) ?_
            refine xm_take 8 (m' := 511) rfl (by kernel_rfl) Sb.a (rd_fieldAddr rfl) rfl (by kernel_rfl) ?_
            refine xm_take 9 (m' := 1023) rfl (by kernel_rfl) Sb.a (rd_load1 rfl (Cl.o1 rfl)) rfl (by kernel_rfl) ?_
            refine xm_take 10 (m' := 2047) rfl (by kernel_rfl) Sb.a (rd_fieldAddr rfl) rfl (by kernel_rfl) ?_
            refine xm_take 11 (m' := 4095) rfl (by kernel_rfl) Sb.a (rd_load1 rfl (Cl.o0 rfl)) rfl (by kernel_rfl) ?_
            refine xm_take 12 (m' := 8191) rfl (by kernel_rfl) Sb.a (rd_fieldAddr rfl) rfl (by kernel_rfl) ?_
            refine xm_take 13 (m' := 16383) rfl (by kernel_rfl) Sb.a (rd_load1 rfl (Cl.o0 rfl)) rfl (by kernel_rfl) ?_
            refine xm_take 14 (m' := 32767) rfl (by kernel_rfl) Sb.a (rd_fieldAddr rfl) rfl (by kernel_rfl) ?_
            refine xm_take 15 (m' := 65535) rfl (by kernel_rfl) Sb.a (rd_load1 rfl (Cl.o0 rfl)) rfl (by kernel_rfl) ?_
            refine xm_one 16 (m' := 131071) rfl (by kernel_rfl) rfl (by kernel_rfl) (ef_mapEntry [_, _] _ (by assumption) rfl rfl rfl fun str100 o' ho' => ?_)
            refine ⟨Sb.a, ?_⟩
            refine xm_take 17 (m' := 262143) rfl (by kernel_rfl) Sb.a (rd_extract rfl rfl) rfl (by kernel_rfl) ?_
            refine xm_one 18 (m' := 524287) rfl (by kernel_rfl) rfl (by kernel_rfl) (ef_entryStore [_, _] _ (by assumption) rfl rfl rfl rfl fun o' ho' => ?_)
            refine ⟨Sb.a, ?_⟩
            refine xm_one 19 (m' := 1048575) rfl (by kernel_rfl) rfl (by kernel_rfl) (ef_mapEntry [_, _] _ (by assumption) rfl rfl rfl fun str102 o' ho' => ?_)
            refine ⟨Sb.a, ?_⟩
            refine xm_take 20 (m' := 2097151) rfl (by kernel_rfl) Sb.a (rd_extract rfl rfl) rfl (by kernel_rfl) ?_
            refine xm_one 21 (m' := 4194303) rfl (by kernel_rfl) rfl (by kernel_rfl) (ef_entryStore [_, _] _ (by assumption) rfl rfl rfl rfl fun o' ho' => ?_)
            refine ⟨Sb.a, ?_⟩
            refine xm_done (by kernel_rfl) ?_
            refine xq_seq ?_
            refine xc_seq ?_
            refine xc_region ?_
            refine xo_rd (rd_assign rfl) rfl ?_
            refine xo_nil ?_
            refine xq_seq ?_
            refine xc_ret ?_
          rw [srcOf_join ms m _ _ hs1 hs2] at ho'
          exact xq_tail (xq_ret1 (.inl rfl) Tryz.results78 rfl ⟨rfl, ⟨most, ms ++ [m], c, .slice q (ms.length + 1) c', l', mb, o', _⟩, ⟨by dsimp only; rw [List.length_append, List.flatMap_append]; simpa using hO', ho', hf'⟩, rfl, rfl, rfl, by rw [Ro.blks_app]; rfl⟩)
  · have hE : joinR x.most x.ms m = 2 := by unfold joinR; rw [if_pos hr]
    have hk := keep (by rw [hE]; decide)
    rw [hE]
    focus
      refine xc_seq ?_
      refine xc_block ?_
      refine xc_seq ?_
      refine xc_region ?_
      refine xo_rd (rd_fieldAddr rfl) rfl ?_
      refine xo_rd (rd_load1 rfl (Cl.o0 rfl)) rfl ?_
      refine xo_rd (rd_lss rfl rfl) rfl ?_
      refine xo_rd (rd_move rfl) rfl ?_
      refine xo_dec 35 rfl (fun hj1 => ?_) (fun hj1 => ?_)
      refine xo_gskip rfl rfl rfl rfl ?_
      refine xo_gskip rfl rfl rfl rfl ?_
      refine xo_gskip rfl rfl rfl rfl ?_
      refine xo_rd (rd_pickt rfl rfl) rfl ?_
      refine xo_rd (rd_move rfl) rfl ?_
      refine xo_gskip rfl rfl rfl rfl ?_
      refine xo_gskip rfl rfl rfl rfl ?_
      refine xo_gskip rfl rfl rfl rfl ?_
      refine xo_rd (rd_pickt rfl rfl) rfl ?_
      refine xo_rd (rd_move rfl) rfl ?_
      refine xo_gskip rfl rfl rfl rfl ?_
      refine xo_gskip rfl rfl rfl rfl ?_
      refine xo_gskip rfl rfl rfl rfl ?_
      refine xo_gskip rfl rfl rfl rfl ?_
      refine xo_gskip rfl rfl rfl rfl ?_
      refine xo_rd (rd_pickt rfl rfl) rfl ?_
      refine xo_rd (rd_assign rfl) rfl ?_
      refine xo_nil ?_
      refine xq_seq ?_
      refine xc_condt rfl ?_
      refine xc_seq ?_
      refine xc_region ?_
      refine xo_rd (rd_assign rfl) rfl ?_
      refine xo_nil ?_
      refine xq_seq ?_
      refine xc_ret ?_
      refine xq_block_ret ?_
      refine xq_then_ret ?_
      rotate_left
      refine xo_grd rfl rfl (rd_fieldAddr rfl) rfl ?_
      refine xo_grd rfl rfl (rd_load1 rfl (Cl.o0 rfl)) rfl ?_
      refine xo_grd rfl rfl (rd_eql rfl rfl) rfl ?_
      refine xo_rd (rd_pickf rfl rfl) rfl ?_
      refine xo_rd (rd_move rfl) rfl ?_
      refine xo_dec 40 rfl (fun hj2 => ?_) (fun hj2 => ?_)
      refine xo_gskip rfl rfl rfl rfl ?_
      refine xo_gskip rfl rfl rfl rfl ?_
      refine xo_gskip rfl rfl rfl rfl ?_
      refine xo_rd (rd_pickt rfl rfl) rfl ?_
      refine xo_rd (rd_move rfl) rfl ?_
      refine xo_gskip rfl rfl rfl rfl ?_
      refine xo_gskip rfl rfl rfl rfl ?_
      refine xo_gskip rfl rfl rfl rfl ?_
      refine xo_gskip rfl rfl rfl rfl ?_
      refine xo_gskip rfl rfl rfl rfl ?_
      refine xo_rd (rd_pickt rfl rfl) rfl ?_
      refine xo_rd (rd_assign rfl) rfl ?_
      refine xo_nil ?_
      refine xq_seq ?_
      refine xc_condt rfl ?_
      refine xc_seq ?_
      refine xc_region ?_
      refine xo_rd (rd_assign rfl) rfl ?_
      refine xo_nil ?_
      refine xq_seq ?_
      refine xc_ret ?_
      refine xq_block_ret ?_
      refine xq_then_ret ?_
      rotate_left
      refine xo_grd rfl rfl (rd_fieldAddr rfl) rfl ?_
      refine xo_grd rfl rfl (rd_load1 rfl (Cl.o0 rfl)) rfl ?_
      refine xo_grd rfl rfl (rd_eql rfl rfl) rfl ?_
      refine xo_rd (rd_pickf rfl rfl) rfl ?_
      refine xo_rd (rd_move rfl) rfl ?_
      refine xo_dec 45 rfl (fun hj3 => ?_) (fun hj3 => ?_)
      refine xo_gskip rfl rfl rfl rfl ?_
      refine xo_gskip rfl rfl rfl rfl ?_
      refine xo_gskip rfl rfl rfl rfl ?_
      refine xo_gskip rfl rfl rfl rfl ?_
      refine xo_gskip rfl rfl rfl rfl ?_
      refine xo_rd (rd_pickt rfl rfl) rfl ?_
      refine xo_rd (rd_assign rfl) rfl ?_
      refine xo_nil ?_
      refine xq_seq ?_
      refine xc_condt rfl ?_
      refine xc_seq ?_
      refine xc_region ?_
      refine xo_rd (rd_assign rfl) rfl ?_
      refine xo_nil ?_
      refine xq_seq ?_
      refine xc_ret ?_
      refine xq_block_ret ?_
      refine xq_then_ret ?_
      rotate_left
      refine xo_grd rfl rfl (rd_fieldAddr rfl) rfl ?_
      refine xo_grd rfl rfl (rd_load1 rfl (Cl.o0 rfl)) rfl ?_
      refine xo_grd rfl rfl (rd_fieldAddr rfl) rfl ?_
      refine xo_grd rfl rfl (rd_load1 rfl (Cl.o0 rfl)) rfl ?_
      refine xo_grd rfl rfl (rd_eql rfl rfl) rfl ?_
      refine xo_rd (rd_pickf rfl rfl) rfl ?_
      refine xo_rd (rd_assign rfl) rfl ?_
      refine xo_nil ?_
      refine xq_seq ?_
      refine xc_dec rfl (fun hj4 => ?_) (fun hj4 => ?_)
      refine xc_seq ?_
      refine xc_region ?_
      refine xo_rd (rd_assign rfl) rfl ?_
      refine xo_nil ?_
      refine xq_seq ?_
      refine xc_ret ?_
      refine xq_block_ret ?_
      refine xq_then_ret ?_
      rotate_left
      rotate_left
    · exact xq_tail (xq_ret1 (.inl rfl) Tryz.results78 rfl ⟨rfl, hk⟩)
    · exact xq_tail (xq_ret1 (.inl rfl) Tryz.results78 rfl ⟨rfl, hk⟩)
    · exact xq_tail (xq_ret1 (.inl rfl) Tryz.results78 rfl ⟨rfl, hk⟩)
    · exact xq_tail (xq_ret1 (.inl rfl) Tryz.results78 rfl ⟨rfl, hk⟩)
    · refine absurd ?_ hr
      unfold Mb.right
      rintro (h | h | h | h)
      · exact hj1 h
      · exact hj2 h
      · exact hj3 h
      · exact hj4 h
end Go.Proofs.YtmdeajdaeihniaaGreat.X
/-
  Words of my own: what an argument that can be read holds, for the rows. No condition; generic over the program.
-/
namespace Go.Proofs.YtmdeajdaeihniaaGreat.X
open Go Go.RowKit
set_option linter.unusedVariables false
set_option linter.unusedSimpArgs false



/-- A slice's value: where, how many, and what its elements are. -/
structure SlV (α : Type) where
  p : Option Addr
  n : Nat
  c : Nat
  l : List α
def SlV.enc {α : Type} (v : SlV α) : List Value := [.slice v.p v.n v.c]
structure SlV.Good {α : Type} (W : World) (enc : α → List Value) (G : α → Prop) (v : SlV α) : Prop where
  len : v.l.length = v.n
  rs : Rs W [] v.p (v.l.flatMap enc)
  all : ∀ x, x ∈ v.l → G x
  cap : v.n ≤ v.c
  max : v.c ≤ 9223372036854775807
section
variable {P : Program} {W : World}
end
end Go.Proofs.YtmdeajdaeihniaaGreat.X
/-
  A roster that is not there: walks of my own.
-/
namespace Go.Proofs.YtmdeajdaeihniaaGreat.X
open Go Go.RowKit
set_option linter.unusedVariables false
set_option linter.unusedSimpArgs false
end Go.Proofs.YtmdeajdaeihniaaGreat.X
/-
  The reference's roster: walks of my own.
-/
namespace Go.Proofs.YtmdeajdaeihniaaGreat.X
open Go Go.RowKit
set_option linter.unusedVariables false
set_option linter.unusedSimpArgs false
theorem leave_filter (l : List Mb) (id : Int) (h : (l.map Mb.id).Nodup) : l.filter (fun m => decide (m.id ≠ id)) = leaveL l id := by
  unfold leaveL
  induction l with
  | nil => rfl
  | cons a l ih =>
    rw [List.map_cons, List.nodup_cons] at h
    by_cases e : a.id = id
    · subst e
      rw [List.filter_cons_of_neg (by simp), List.eraseP_cons_of_pos (by simp), List.filter_eq_self]
      intro m hm
      simp only [ne_eq, decide_not, Bool.not_eq_true', decide_eq_false_iff_not]
      exact fun e => h.1 (List.mem_map.2 ⟨m, hm, e⟩)
    · rw [List.filter_cons_of_pos (by simpa using e), List.eraseP_cons_of_neg (by simpa using e), ih h.2]
theorem xf_rnew_bad {W : World} {L : List Blk} (most : Int) (hs : most < 0 ∨ 32 < most) : XF Tryz.prog W 25 #[.int .i64 most] L (fun v L' => v = .tuple #[.agg #[.int .i64 0, .slice none 0 0], .int .i64 2] ∧ L' = L) := by
  refine xf_enter (args := [_]) Tryz.func25 rfl Tryz.ntmps25 rfl ?_
  focus
    refine xc_seq ?_
    refine xc_region ?_
    refine xo_ef rfl (ef_alloc fun r2 => ?_)
    refine xo_rd (rd_assign rfl) rfl ?_
    refine xo_nil ?_
    refine xq_seq ?_
    refine xc_seq ?_
    refine xc_seq ?_
    refine xc_region ?_
    refine xo_rd (rd_move rfl) rfl ?_
    refine xo_rd (rd_lss rfl rfl) rfl ?_
    refine xo_rd (rd_move rfl) rfl ?_
    refine xo_dec 6 rfl (fun h1 => ?_) (fun h1 => ?_)
    refine xo_gskip rfl rfl rfl rfl ?_
    refine xo_gskip rfl rfl rfl rfl ?_
    refine xo_rd (rd_pickt rfl rfl) rfl ?_
    refine xo_nil ?_
    refine xq_seq ?_
    refine xc_condt rfl ?_
    refine xc_seq ?_
    refine xc_region ?_
    refine xo_rd (rd_build rfl rfl rfl) rfl ?_
    refine xo_ef rfl (ef_storeB [] _ rfl rfl (by first | rfl | assumption) rfl rfl rfl ?_)
    refine xo_rd (rd_assign rfl) rfl ?_
    refine xo_nil ?_
    refine xq_seq ?_
    refine xc_ret ?_
    refine xq_then_ret ?_
    rotate_left
    refine xo_grd rfl rfl (rd_move rfl) rfl ?_
    refine xo_grd rfl rfl (rd_gtr rfl rfl) rfl ?_
    refine xo_rd (rd_pickf rfl rfl) rfl ?_
    refine xo_nil ?_
    refine xq_seq ?_
    refine xc_dec rfl (fun h2 => ?_) (fun h2 => (by exfalso; omega))
    refine xc_seq ?_
    refine xc_region ?_
    refine xo_rd (rd_build rfl rfl rfl) rfl ?_
    refine xo_ef rfl (ef_storeB [] _ rfl rfl (by first | rfl | assumption) rfl rfl rfl ?_)
    refine xo_rd (rd_assign rfl) rfl ?_
    refine xo_nil ?_
    refine xq_seq ?_
    refine xc_ret ?_
    refine xq_then_ret ?_
    rotate_left
  · exact xq_retB2 (.inl rfl) Tryz.results25 rfl rfl Kn.o0 rfl (List.sublist_cons_self _ _) ⟨rfl, rfl⟩
  · exact xq_retB2 (.inl rfl) Tryz.results25 rfl rfl Kn.o0 rfl (List.sublist_cons_self _ _) ⟨rfl, rfl⟩
theorem xf_rnew {W : World} {L : List Blk} (most : Int) (hs : 0 ≤ most ∧ most ≤ 32) : XF Tryz.prog W 25 #[.int .i64 most] L (fun v L' => v = .tuple #[.agg #[.int .i64 most, .slice none 0 0], .int .i64 0] ∧ L' = L) := by
  refine xf_enter (args := [_]) Tryz.func25 rfl Tryz.ntmps25 rfl ?_
  focus
    refine xc_seq ?_
    refine xc_region ?_
    refine xo_ef rfl (ef_alloc fun r2 => ?_)
    refine xo_rd (rd_assign rfl) rfl ?_
    refine xo_nil ?_
    refine xq_seq ?_
    refine xc_seq ?_
    refine xc_seq ?_
    refine xc_region ?_
    refine xo_rd (rd_move rfl) rfl ?_
    refine xo_rd (rd_lss rfl rfl) rfl ?_
    refine xo_rd (rd_move rfl) rfl ?_
    refine xo_dec 6 rfl (fun h1 => (by exfalso; omega)) (fun h1 => ?_)
    refine xo_grd rfl rfl (rd_move rfl) rfl ?_
    refine xo_grd rfl rfl (rd_gtr rfl rfl) rfl ?_
    refine xo_rd (rd_pickf rfl rfl) rfl ?_
    refine xo_nil ?_
    refine xq_seq ?_
    refine xc_dec rfl (fun h2 => (by exfalso; omega)) (fun h2 => ?_)
    refine xc_skip ?_
    refine xq_seq ?_
    refine xc_seq ?_
    refine xc_region ?_
    refine xo_rd (rd_move rfl) rfl ?_
    refine xo_rd (rd_build rfl rfl rfl) rfl ?_
    refine xo_ef rfl (ef_storeB [] _ rfl rfl (by first | rfl | assumption) rfl rfl rfl ?_)
    refine xo_rd (rd_assign rfl) rfl ?_
    refine xo_nil ?_
    refine xq_seq ?_
    refine xc_ret ?_
  exact xq_retB2 (.inl rfl) Tryz.results25 rfl rfl Kn.o0 rfl (List.sublist_cons_self _ _) ⟨rfl, rfl⟩
theorem xf_rget {W : World} {L : List Blk} (most : Int) (ms : List Mb) (p : Option Addr) (c : Nat) (hr : Rs W L p (ms.flatMap Mb.enc)) (hl : ms.length ≤ 1000) (id : Int) : XF Tryz.prog W 49 #[.agg #[.int .i64 most, .slice p ms.length c], .int .i64 id] L (fun v L' => v = .tuple #[.agg ((getId ms id).getD ⟨0, 0, 0, false⟩).enc.toArray, .bool (getId ms id).isSome] ∧ L' = L) := by
  refine xf_enter (args := [_, _]) Tryz.func49 rfl Tryz.ntmps49 rfl ?_
  focus
    refine xc_seq ?_
    refine xc_region ?_
    refine xo_ef rfl (ef_box rfl fun r2 => ?_)
    refine xo_ef rfl (ef_alloc fun r4 => ?_)
    refine xo_rd (rd_assign rfl) rfl ?_
    refine xo_nil ?_
    refine xq_seq ?_
    refine xc_seq ?_
    refine xc_seq ?_
    refine xc_region ?_
    refine xo_rd (rd_assign rfl) rfl ?_
    refine xo_nil ?_
    refine xq_seq ?_
    refine xc_block ?_
  refine xc_loopI (ι := Nat) (fun k => k ≤ ms.length ∧ getId (ms.drop k) id = getId ms id) (fun k => ms.length - k) (fun _ => (r4, .cells (Mb.mk 0 0 0 false).enc.toArray 88 (0, 0)) :: (r2, .cells #[.int .i64 most, .slice p ms.length c] 34 (0, 0)) :: L) (fun k => [(1, .int .i64 id), (2, .pointer (some ⟨r2, 0, none⟩)), (4, .pointer (some ⟨r4, 0, none⟩)), (5, .bool false), (6, .int .i64 k)]) 0 ⟨Nat.zero_le _, rfl⟩ rfl (by repeat (first | exact keep_nil | refine keep_cons rfl ?_)) ?_
  rintro k ⟨hk, hg⟩
  focus
    refine xc_seq ?_
    refine xc_seq ?_
    refine xc_region ?_
    refine xo_rd (rd_move rfl) rfl ?_
    refine xo_rd (rd_fieldAddr rfl) rfl ?_
    refine xo_rd (rd_load1 rfl (Cl.o1 rfl)) rfl ?_
    refine xo_rd (rd_len rfl) rfl ?_
    refine xo_rd (rd_lss rfl rfl) rfl ?_
    refine xo_nil ?_
    refine xq_seq ?_
    refine xc_dec rfl (fun hk1 => ?_) (fun hk1 => ?_)
    refine xc_skip ?_
    refine xq_seq ?_
    refine xc_seq ?_
    refine xc_block ?_
    refine xc_seq ?_
    refine xc_region ?_
    refine xo_rd (rd_fieldAddr rfl) rfl ?_
    refine xo_rd (rd_load1 rfl (Cl.o1 rfl)) rfl ?_
    refine xo_rd (rd_move rfl) rfl ?_
    rotate_left
    refine xc_exit ?_
    refine xq_then_exit ?_
    refine xq_then_exit ?_
    refine xq_block_hit ?_
    refine xq_seq ?_
    refine xc_seq ?_
    refine xc_region ?_
    refine xo_rd (rd_build rfl rfl rfl) rfl ?_
    refine xo_ef rfl (ef_storeB [] _ rfl rfl (by first | rfl | assumption) rfl rfl rfl ?_)
    refine xo_rd (rd_assign rfl) rfl ?_
    refine xo_nil ?_
    refine xq_seq ?_
    refine xc_ret ?_
    rotate_left
  · have hkn : k < ms.length := by omega
    obtain ⟨b1, o1, rfl, hc1⟩ := hr.row Mb.len (by decide) hkn
    have hd : ms.drop k = ms[k] :: ms.drop (k + 1) := List.drop_eq_getElem_cons hkn
    have hgk : getId (ms.drop k) id = if ms[k].id = id then some ms[k] else getId (ms.drop (k + 1)) id := by
      unfold getId
      rw [hd, List.find?_cons]
      by_cases e : ms[k].id = id
      · rw [if_pos e, show (ms[k].id == id) = true from by simpa using e]
      · rw [if_neg e, show (ms[k].id == id) = false from by simpa using e]
    rw [hg] at hgk
    focus
      refine xo_rd (rd_indexAddr rfl rfl (by omega) (by omega)) rfl ?_
      refine xo_rd (rd_fieldAddr rfl) rfl ?_
      refine xo_rd (rd_load1 rfl (hc1 0 _ rfl).skip.skip) rfl ?_
      refine xo_rd (rd_move rfl) rfl ?_
      refine xo_rd (rd_eql rfl rfl) rfl ?_
      refine xo_nil ?_
      refine xq_seq ?_
      refine xc_dec rfl (fun hz1 => ?_) (fun hz1 => ?_)
      refine xc_seq ?_
      refine xc_region ?_
      refine xo_rd (rd_fieldAddr rfl) rfl ?_
      refine xo_rd (rd_load1 rfl (Cl.o1 rfl)) rfl ?_
      refine xo_rd (rd_move rfl) rfl ?_
      refine xo_rd (rd_indexAddr rfl rfl (by omega) (by omega)) rfl ?_
      refine xo_rd (rd_loadA (vs := ms[k].enc) rfl rfl (fun j u hj => (hc1 j u hj).skip.skip)) rfl ?_
      refine xo_ef rfl (ef_storeB [] _ rfl rfl (by first | rfl | assumption) rfl rfl rfl ?_)
      refine xo_rd (rd_assign rfl) rfl ?_
      refine xo_nil ?_
      refine xq_seq ?_
      refine xc_ret ?_
      refine xq_block_ret ?_
      refine xq_then_ret ?_
      refine xq_then_ret ?_
      refine xq_block_ret ?_
      refine xq_then_ret ?_
      rotate_left
      refine xc_skip ?_
      refine xq_block ?_
      refine xq_seq ?_
      refine xc_region ?_
      refine xo_rd (rd_move rfl) rfl ?_
      refine xo_rd (rd_addn rfl rfl (by omega) (by omega)) rfl ?_
      refine xo_rd (rd_assign rfl) rfl ?_
      refine xo_nil ?_
      rotate_left
    · rw [if_pos hz1] at hgk
      exact xq_retB2 (.inl rfl) Tryz.results49 rfl rfl Kn.o0 rfl ((List.sublist_cons_self _ _).trans (List.sublist_cons_self _ _)) ⟨by rw [hgk]; rfl, rfl⟩
    · rw [if_neg hz1] at hgk
      exact xq_roundI (k + 1) ⟨by omega, hgk.symm⟩ (by omega) rfl (by repeat (first | exact keep_nil | refine keep_cons rfl ?_))
  · have hn : getId ms id = none := by rw [← hg, List.drop_eq_nil_of_le (by omega)]; rfl
    exact xq_retB2 (.inl rfl) Tryz.results49 rfl rfl Kn.o0 rfl ((List.sublist_cons_self _ _).trans (List.sublist_cons_self _ _)) ⟨by rw [hn]; rfl, rfl⟩
theorem xf_rsource {W : World} {L : List Blk} (most : Int) (ms : List Mb) (p : Option Addr) (c : Nat) (hr : Rs W L p (ms.flatMap Mb.enc)) (hl : ms.length ≤ 1000) (s : Int) : XF Tryz.prog W 47 #[.agg #[.int .i64 most, .slice p ms.length c], .int .u32 s] L (fun v L' => v = .tuple #[.agg ((getSrc ms s).getD ⟨0, 0, 0, false⟩).enc.toArray, .bool (decide ((getSrc ms s).map Mb.content = some s)), .bool (getSrc ms s).isSome] ∧ L' = L) := by
  refine xf_enter (args := [_, _]) Tryz.func47 rfl Tryz.ntmps47 rfl ?_
  focus
    refine xc_seq ?_
    refine xc_region ?_
    refine xo_ef rfl (ef_box rfl fun r2 => ?_)
    refine xo_ef rfl (ef_alloc fun r4 => ?_)
    refine xo_rd (rd_assign rfl) rfl ?_
    refine xo_rd (rd_assign rfl) rfl ?_
    refine xo_nil ?_
    refine xq_seq ?_
    refine xc_seq ?_
    refine xc_seq ?_
    refine xc_region ?_
    refine xo_rd (rd_assign rfl) rfl ?_
    refine xo_nil ?_
    refine xq_seq ?_
    refine xc_block ?_
  refine xc_loopI (ι := Nat) (fun k => k ≤ ms.length ∧ getSrc (ms.drop k) s = getSrc ms s) (fun k => ms.length - k) (fun _ => (r4, .cells (Mb.mk 0 0 0 false).enc.toArray 88 (0, 0)) :: (r2, .cells #[.int .i64 most, .slice p ms.length c] 34 (0, 0)) :: L) (fun k => [(1, .int .u32 s), (2, .pointer (some ⟨r2, 0, none⟩)), (4, .pointer (some ⟨r4, 0, none⟩)), (5, .bool false), (6, .bool false), (7, .int .i64 k)]) 0 ⟨Nat.zero_le _, rfl⟩ rfl (by repeat (first | exact keep_nil | refine keep_cons rfl ?_)) ?_
  rintro k ⟨hk, hg⟩
  focus
    refine xc_seq ?_
    refine xc_seq ?_
    refine xc_region ?_
    refine xo_rd (rd_move rfl) rfl ?_
    refine xo_rd (rd_fieldAddr rfl) rfl ?_
    refine xo_rd (rd_load1 rfl (Cl.o1 rfl)) rfl ?_
    refine xo_rd (rd_len rfl) rfl ?_
    refine xo_rd (rd_lss rfl rfl) rfl ?_
    refine xo_nil ?_
    refine xq_seq ?_
    refine xc_dec rfl (fun hk1 => ?_) (fun hk1 => ?_)
    refine xc_skip ?_
    refine xq_seq ?_
    refine xc_seq ?_
    refine xc_block ?_
    refine xc_seq ?_
    refine xc_region ?_
    refine xo_rd (rd_fieldAddr rfl) rfl ?_
    refine xo_rd (rd_load1 rfl (Cl.o1 rfl)) rfl ?_
    refine xo_rd (rd_move rfl) rfl ?_
    rotate_left
    refine xc_exit ?_
    refine xq_then_exit ?_
    refine xq_then_exit ?_
    refine xq_block_hit ?_
    refine xq_seq ?_
    refine xc_seq ?_
    refine xc_region ?_
    refine xo_rd (rd_build rfl rfl rfl) rfl ?_
    refine xo_ef rfl (ef_storeB [] _ rfl rfl (by first | rfl | assumption) rfl rfl rfl ?_)
    refine xo_rd (rd_assign rfl) rfl ?_
    refine xo_rd (rd_assign rfl) rfl ?_
    refine xo_nil ?_
    refine xq_seq ?_
    refine xc_ret ?_
    rotate_left
  · have hkn : k < ms.length := by omega
    obtain ⟨b1, o1, rfl, hc1⟩ := hr.row Mb.len (by decide) hkn
    have hd : ms.drop k = ms[k] :: ms.drop (k + 1) := List.drop_eq_getElem_cons hkn
    have hgk : getSrc (ms.drop k) s = if ms[k].content = s ∨ ms[k].camera = s then some ms[k] else getSrc (ms.drop (k + 1)) s := by
      unfold getSrc
      rw [hd, List.find?_cons]
      by_cases e : ms[k].content = s ∨ ms[k].camera = s
      · rw [if_pos e, show ms[k].src s = true from by simpa [Mb.src] using e]
      · rw [if_neg e, show ms[k].src s = false from by simpa [Mb.src] using e]
    rw [hg] at hgk
    focus
      refine xo_rd (rd_indexAddr rfl rfl (by omega) (by omega)) rfl ?_
      refine xo_rd (rd_fieldAddr rfl) rfl ?_
      refine xo_rd (rd_load1 rfl (hc1 1 _ rfl).skip.skip) rfl ?_
      refine xo_rd (rd_move rfl) rfl ?_
      refine xo_rd (rd_eql rfl rfl) rfl ?_
      refine xo_rd (rd_move rfl) rfl ?_
      refine xo_dec 23 rfl (fun hz1 => ?_) (fun hz1 => ?_)
      refine xo_gskip rfl rfl rfl rfl ?_
      refine xo_gskip rfl rfl rfl rfl ?_
      refine xo_gskip rfl rfl rfl rfl ?_
      refine xo_gskip rfl rfl rfl rfl ?_
      refine xo_gskip rfl rfl rfl rfl ?_
      refine xo_gskip rfl rfl rfl rfl ?_
      refine xo_gskip rfl rfl rfl rfl ?_
      refine xo_gskip rfl rfl rfl rfl ?_
      refine xo_rd (rd_pickt rfl rfl) rfl ?_
      refine xo_nil ?_
      refine xq_seq ?_
      refine xc_condt rfl ?_
      refine xc_seq ?_
      refine xc_drawM [0, 1, 0, 6, 8, 0, 32, 0, 192, 256, 512, 0, 3072, 31, 16383, 32767] [0, 1, 0, 6, 8, 0, 32, 0, 192, 256, 512, 0, 3072, 31, 16383, 32767] ((r2, .cells #[.int .i64 most, .slice (some ⟨b1, o1, none⟩) ms.length c] 34 (0, 0)) :: L) (by kernel_rfl) (by kernel_rfl) (by kernel_rfl) ?_
      refine xm_take 0 (m' := 1) rfl (by kernel_rfl) Sb.a (rd_fieldAddr rfl) rfl (by kernel_rfl) ?_
      refine xm_take 1 (m' := 3) rfl (by kernel_rfl) Sb.a (rd_load1 rfl (Cl.o0 rfl)) rfl (by kernel_rfl) ?_
      refine xm_take 2 (m' := 7) rfl (by kernel_rfl) Sb.a (rd_move rfl) rfl (by kernel_rfl) ?_
      refine xm_take 3 (m' := 15) rfl (by kernel_rfl) Sb.a (rd_indexAddr rfl rfl (by omega) (by omega)) rfl (by kernel_rfl) ?_
      refine xm_take 4 (m' := 31) rfl (by kernel_rfl) Sb.a (rd_loadA (vs := ms[k].enc) rfl rfl (fun j u hj => (hc1 j u hj).skip)) rfl (by kernel_rfl) ?_
      refine xm_take 5 (m' := 63) rfl (by kernel_rfl) Sb.a (rd_fieldAddr rfl) rfl (by kernel_rfl) ?_
      refine xm_take 6 (m' := 127) rfl (by kernel_rfl) Sb.a (rd_load1 rfl (Cl.o0 rfl)) rfl (by kernel_rfl) ?_
      refine xm_take 7 (m' := 255) rfl (by kernel_rfl) Sb.a (rd_move rfl) rfl (by kernel_rfl) ?_
      refine xm_take 8 (m' := 511) rfl (by kernel_rfl) Sb.a (rd_indexAddr rfl rfl (by omega) (by omega)) rfl (by kernel_rfl) ?_
      refine xm_take 9 (m' := 1023) rfl (by kernel_rfl) Sb.a (rd_fieldAddr rfl) rfl (by kernel_rfl) ?_
      refine xm_take 10 (m' := 2047) rfl (by kernel_rfl) Sb.a (rd_load1 rfl (hc1 1 _ rfl).skip) rfl (by kernel_rfl) ?_
      refine xm_take 11 (m' := 4095) rfl (by kernel_rfl) Sb.a (rd_move rfl) rfl (by kernel_rfl) ?_
      refine xm_take 12 (m' := 8191) rfl (by kernel_rfl) Sb.a (rd_eql rfl rfl) rfl (by kernel_rfl) ?_
      refine xm_one 13 (m' := 16383) rfl (by kernel_rfl) rfl (by kernel_rfl) (ef_storeB [] _ rfl rfl (by first | rfl | assumption) rfl rfl rfl ?_)
      refine ⟨Sb.a, ?_⟩
      refine xm_take 14 (m' := 32767) rfl (by kernel_rfl) Sb.a (rd_assign rfl) rfl (by kernel_rfl) ?_
      refine xm_take 15 (m' := 65535) rfl (by kernel_rfl) Sb.a (rd_assign rfl) rfl (by kernel_rfl) ?_
      refine xm_done (by kernel_rfl) ?_
      refine xq_seq ?_
      refine xc_ret ?_
      refine xq_block_ret ?_
      refine xq_then_ret ?_
      refine xq_then_ret ?_
      refine xq_block_ret ?_
      refine xq_then_ret ?_
      rotate_left
      refine xo_grd rfl rfl (rd_fieldAddr rfl) rfl ?_
      refine xo_grd rfl rfl (rd_load1 rfl (Cl.o1 rfl)) rfl ?_
      refine xo_grd rfl rfl (rd_move rfl) rfl ?_
      refine xo_grd rfl rfl (rd_indexAddr rfl rfl (by omega) (by omega)) rfl ?_
      refine xo_grd rfl rfl (rd_fieldAddr rfl) rfl ?_
      refine xo_grd rfl rfl (rd_load1 rfl (hc1 2 _ rfl).skip.skip) rfl ?_
      refine xo_grd rfl rfl (rd_move rfl) rfl ?_
      refine xo_grd rfl rfl (rd_eql rfl rfl) rfl ?_
      refine xo_rd (rd_pickf rfl rfl) rfl ?_
      refine xo_nil ?_
      refine xq_seq ?_
      refine xc_dec rfl (fun hz2 => ?_) (fun hz2 => ?_)
      refine xc_seq ?_
      refine xc_drawM [0, 1, 0, 6, 8, 0, 32, 0, 192, 256, 512, 0, 3072, 31, 16383, 32767] [0, 1, 0, 6, 8, 0, 32, 0, 192, 256, 512, 0, 3072, 31, 16383, 32767] ((r2, .cells #[.int .i64 most, .slice (some ⟨b1, o1, none⟩) ms.length c] 34 (0, 0)) :: L) (by kernel_rfl) (by kernel_rfl) (by kernel_rfl) ?_
      refine xm_take 0 (m' := 1) rfl (by kernel_rfl) Sb.a (rd_fieldAddr rfl) rfl (by kernel_rfl) ?_
      refine xm_take 1 (m' := 3) rfl (by kernel_rfl) Sb.a (rd_load1 rfl (Cl.o0 rfl)) rfl (by kernel_rfl) ?_
      refine xm_take 2 (m' := 7) rfl (by kernel_rfl) Sb.a (rd_move rfl) rfl (by kernel_rfl) ?_
      refine xm_take 3 (m' := 15) rfl (by kernel_rfl) Sb.a (rd_indexAddr rfl rfl (by omega) (by omega)) rfl (by kernel_rfl) ?_
      refine xm_take 4 (m' := 31) rfl (by kernel_rfl) Sb.a (rd_loadA (vs := ms[k].enc) rfl rfl (fun j u hj => (hc1 j u hj).skip)) rfl (by kernel_rfl) ?_
      refine xm_take 5 (m' := 63) rfl (by kernel_rfl) Sb.a (rd_fieldAddr rfl) rfl (by kernel_rfl) ?_
      refine xm_take 6 (m' := 127) rfl (by kernel_rfl) Sb.a (rd_load1 rfl (Cl.o0 rfl)) rfl (by kernel_rfl) ?_
      refine xm_take 7 (m' := 255) rfl (by kernel_rfl) Sb.a (rd_move rfl) rfl (by kernel_rfl) ?_
      refine xm_take 8 (m' := 511) rfl (by kernel_rfl) Sb.a (rd_indexAddr rfl rfl (by omega) (by omega)) rfl (by kernel_rfl) ?_
      refine xm_take 9 (m' := 1023) rfl (by kernel_rfl) Sb.a (rd_fieldAddr rfl) rfl (by kernel_rfl) ?_
      refine xm_take 10 (m' := 2047) rfl (by kernel_rfl) Sb.a (rd_load1 rfl (hc1 1 _ rfl).skip) rfl (by kernel_rfl) ?_
      refine xm_take 11 (m' := 4095) rfl (by kernel_rfl) Sb.a (rd_move rfl) rfl (by kernel_rfl) ?_
      refine xm_take 12 (m' := 8191) rfl (by kernel_rfl) Sb.a (rd_eql rfl rfl) rfl (by kernel_rfl) ?_
      refine xm_one 13 (m' := 16383) rfl (by kernel_rfl) rfl (by kernel_rfl) (ef_storeB [] _ rfl rfl (by first | rfl | assumption) rfl rfl rfl ?_)
      refine ⟨Sb.a, ?_⟩
      refine xm_take 14 (m' := 32767) rfl (by kernel_rfl) Sb.a (rd_assign rfl) rfl (by kernel_rfl) ?_
      refine xm_take 15 (m' := 65535) rfl (by kernel_rfl) Sb.a (rd_assign rfl) rfl (by kernel_rfl) ?_
      refine xm_done (by kernel_rfl) ?_
      refine xq_seq ?_
      refine xc_ret ?_
      refine xq_block_ret ?_
      refine xq_then_ret ?_
      refine xq_then_ret ?_
      refine xq_block_ret ?_
      refine xq_then_ret ?_
      rotate_left
      refine xc_skip ?_
      refine xq_block ?_
      refine xq_seq ?_
      refine xc_region ?_
      refine xo_rd (rd_move rfl) rfl ?_
      refine xo_rd (rd_addn rfl rfl (by omega) (by omega)) rfl ?_
      refine xo_rd (rd_assign rfl) rfl ?_
      refine xo_nil ?_
      rotate_left
    · rw [if_pos (.inl hz1)] at hgk
      exact xq_retB3 (.inl rfl) Tryz.results47 rfl rfl rfl Kn.o0 rfl ((List.sublist_cons_self _ _).trans (List.sublist_cons_self _ _)) ⟨by rw [hgk]; simp, rfl⟩
    · rw [if_pos (.inr hz2)] at hgk
      exact xq_retB3 (.inl rfl) Tryz.results47 rfl rfl rfl Kn.o0 rfl ((List.sublist_cons_self _ _).trans (List.sublist_cons_self _ _)) ⟨by rw [hgk]; simp, rfl⟩
    · rw [if_neg (by rintro (h | h); exact hz1 h; exact hz2 h)] at hgk
      exact xq_roundI (k + 1) ⟨by omega, hgk.symm⟩ (by omega) rfl (by repeat (first | exact keep_nil | refine keep_cons rfl ?_))
  · have hn : getSrc ms s = none := by rw [← hg, List.drop_eq_nil_of_le (by omega)]; rfl
    exact xq_retB3 (.inl rfl) Tryz.results47 rfl rfl rfl Kn.o0 rfl ((List.sublist_cons_self _ _).trans (List.sublist_cons_self _ _)) ⟨by rw [hn]; rfl, rfl⟩
theorem xf_rleave {W : World} {L : List Blk} (L0 : List Blk) (most : Int) (ms : List Mb) (p : Option Addr) (c : Nat) (hr0 : Rs W L0 p (ms.flatMap Mb.enc)) (hs : ∀ z, z ∈ L0 → z ∈ L) (hn : (ms.map Mb.id).Nodup) (hl : ms.length ≤ 1000) (id : Int) : XF Tryz.prog W 69 #[.agg #[.int .i64 most, .slice p ms.length c], .int .i64 id] L (fun v L' => ∃ p' c' lo, v = .tuple #[.agg #[.int .i64 most, .slice p' (leaveL ms id).length c'], .int .i64 (leaveR ms id)] ∧ L' = lo ++ L ∧ Rs W (lo ++ L0) p' ((leaveL ms id).flatMap Mb.enc)) := by
  have hr := hr0.mono hs
  refine xf_enter (args := [_, _]) Tryz.func69 rfl Tryz.ntmps69 rfl ?_
  have hlc : (ms.take 0).filter (fun m => decide (m.id ≠ id)) = [] := rfl
  focus
    refine xc_seq ?_
    refine xc_region ?_
    refine xo_ef rfl (ef_box rfl fun r2 => ?_)
    refine xo_ef rfl (ef_alloc fun r4 => ?_)
    refine xo_rd (rd_assign rfl) rfl ?_
    refine xo_nil ?_
    refine xq_seq ?_
    refine xc_seq ?_
    refine xc_region ?_
    refine xo_rd (rd_assign rfl) rfl ?_
    refine xo_nil ?_
    refine xq_seq ?_
    refine xc_seq ?_
    refine xc_seq ?_
    refine xc_region ?_
    refine xo_rd (rd_assign rfl) rfl ?_
    refine xo_nil ?_
    refine xq_seq ?_
    refine xc_block ?_
  refine xc_loopI (ι := Nat × Value × List Blk) (fun s => s.1 ≤ ms.length ∧ SlO 4 88 s.2.1 ((ms.take s.1).filter (fun m => decide (m.id ≠ id))).length (((ms.take s.1).filter (fun m => decide (m.id ≠ id))).flatMap Mb.enc) s.2.2) (fun s => ms.length - s.1) (fun s => (r4, .cells #[.int .i64 0, .slice none 0 0] 34 (0, 0)) :: (r2, .cells #[.int .i64 most, .slice p ms.length c] 34 (0, 0)) :: (s.2.2 ++ L)) (fun s => [(1, .int .i64 id), (2, .pointer (some ⟨r2, 0, none⟩)), (4, .pointer (some ⟨r4, 0, none⟩)), (5, .int .i64 0), (6, s.2.1), (7, .int .i64 s.1)]) (0, .slice none 0 0, []) ⟨Nat.zero_le _, by dsimp only; rw [hlc]; exact SlO.nil⟩ rfl (by repeat (first | exact keep_nil | refine keep_cons rfl ?_)) ?_
  rintro ⟨k, v, lo⟩ ⟨hk, hOo⟩
  dsimp only at hk hOo ⊢
  have hfl : ((ms.take k).filter (fun m => decide (m.id ≠ id))).length ≤ k := by
    have h1 := List.length_filter_le (fun m : Mb => decide (m.id ≠ id)) (ms.take k)
    rw [List.length_take] at h1
    omega
  focus
    refine xc_seq ?_
    refine xc_seq ?_
    refine xc_region ?_
    refine xo_rd (rd_move rfl) rfl ?_
    refine xo_rd (rd_fieldAddr rfl) rfl ?_
    refine xo_rd (rd_load1 rfl (Cl.o1 rfl)) rfl ?_
    refine xo_rd (rd_len rfl) rfl ?_
    refine xo_rd (rd_lss rfl rfl) rfl ?_
    refine xo_nil ?_
    refine xq_seq ?_
    refine xc_dec rfl (fun hk1 => ?_) (fun hk1 => ?_)
    refine xc_skip ?_
    refine xq_seq ?_
    refine xc_seq ?_
    refine xc_block ?_
    refine xc_seq ?_
    refine xc_region ?_
    refine xo_rd (rd_fieldAddr rfl) rfl ?_
    refine xo_rd (rd_load1 rfl (Cl.o1 rfl)) rfl ?_
    refine xo_rd (rd_move rfl) rfl ?_
    rotate_left
    refine xc_exit ?_
    refine xq_then_exit ?_
    refine xq_then_exit ?_
    rotate_left
  · have hkn : k < ms.length := by omega
    obtain ⟨b1, o1, rfl, hc1⟩ := hr.row Mb.len (by decide) hkn
    have ht : ms.take (k + 1) = ms.take k ++ [ms[k]] := by
      rw [List.take_add_one, List.getElem?_eq_getElem hkn]; rfl
    focus
      refine xo_rd (rd_indexAddr rfl rfl (by omega) (by omega)) rfl ?_
      refine xo_rd (rd_fieldAddr rfl) rfl ?_
      refine xo_rd (rd_load1 rfl (hc1 0 _ rfl).app.skip.skip) rfl ?_
      refine xo_rd (rd_move rfl) rfl ?_
      refine xo_rd (rd_neq rfl rfl) rfl ?_
      refine xo_nil ?_
      refine xq_seq ?_
      refine xc_ndec rfl (fun hz1 => ?_) (fun hz1 => ?_)
      refine xc_region ?_
      refine xo_rd (rd_move rfl) rfl ?_
      refine xo_rd (rd_fieldAddr rfl) rfl ?_
      refine xo_rd (rd_load1 rfl (Cl.o1 rfl)) rfl ?_
      refine xo_rd (rd_move rfl) rfl ?_
      refine xo_rd (rd_indexAddr rfl rfl (by omega) (by omega)) rfl ?_
      rotate_left
      refine xc_skip ?_
      refine xq_block ?_
      refine xq_seq ?_
      refine xc_region ?_
      refine xo_rd (rd_move rfl) rfl ?_
      refine xo_rd (rd_addn rfl rfl (by omega) (by omega)) rfl ?_
      refine xo_rd (rd_assign rfl) rfl ?_
      refine xo_nil ?_
      rotate_left
    · have hf1 : (ms.take (k + 1)).filter (fun m => decide (m.id ≠ id)) = (ms.take k).filter (fun m => decide (m.id ≠ id)) ++ [ms[k]] := by
        rw [ht, List.filter_append, List.filter_cons_of_pos (by simpa using hz1), List.filter_nil]
      focus
        refine xo_rd (rd_loadA (vs := ms[k].enc) rfl rfl (fun j u hj => (hc1 j u hj).app.skip.skip)) rfl ?_
        refine xo_ef rfl (ef_sliceA (vs := ms[k].enc) rfl rfl (by rw [Mb.len]; decide) (by rw [Mb.len]; decide) fun r29 => ?_)
      refine xo_ef rfl (ef_append [_, _, _] _ lo rfl rfl hOo rfl (Rs.fresh (List.Mem.head _)) rfl rfl (by decide) (by omega) (by omega) fun v3 lo' hO3 => ?_)
      refine xo_tail ?_
      focus
        refine xo_rd (rd_assign rfl) rfl ?_
        refine xo_nil ?_
        refine xq_block ?_
        refine xq_seq ?_
        refine xc_region ?_
        refine xo_rd (rd_move rfl) rfl ?_
        refine xo_rd (rd_addn rfl rfl (by omega) (by omega)) rfl ?_
        refine xo_rd (rd_assign rfl) rfl ?_
        refine xo_nil ?_
      exact xq_roundI (k + 1, v3, lo') ⟨by dsimp only; omega, by dsimp only; rw [hf1, List.flatMap_append, List.length_append]; simpa using hO3⟩ (by dsimp only; omega) rfl (by repeat (first | exact keep_nil | refine keep_cons rfl ?_))
    · have hf1 : (ms.take (k + 1)).filter (fun m => decide (m.id ≠ id)) = (ms.take k).filter (fun m => decide (m.id ≠ id)) := by
        rw [ht, List.filter_append, List.filter_cons_of_neg (by simpa using hz1), List.filter_nil, List.append_nil]
      exact xq_roundI (k + 1, v, lo) ⟨by dsimp only; omega, by dsimp only; rw [hf1]; exact hOo⟩ (by dsimp only; omega) rfl (by repeat (first | exact keep_nil | refine keep_cons rfl ?_))
  · have hkn : k = ms.length := by omega
    subst hkn
    rw [List.take_length, leave_filter _ _ hn] at hOo
    obtain ⟨po, ko, rfl, hOo, _⟩ := hOo.opn
    rcases ix_cases ms id with ⟨_, hg, hlv⟩ | ⟨i, hi, _, hg, _, hlv⟩
    · have hE : leaveR ms id = 130 := by unfold leaveR; rw [hg]; rfl
      rw [hE, hlv]
      rw [hlv] at hOo
      focus
        refine xq_block_hit ?_
        refine xq_seq ?_
        refine xc_seq ?_
        refine xc_seq ?_
        refine xc_region ?_
        refine xo_rd (rd_move rfl) rfl ?_
        refine xo_rd (rd_len rfl) rfl ?_
        refine xo_rd (rd_fieldAddr rfl) rfl ?_
        refine xo_rd (rd_load1 rfl (Cl.o1 rfl)) rfl ?_
        refine xo_rd (rd_len rfl) rfl ?_
        refine xo_rd (rd_eql rfl rfl) rfl ?_
        refine xo_nil ?_
        refine xq_seq ?_
        refine xc_dec rfl (fun _ => ?_) (fun h => absurd rfl h)
        refine xc_seq ?_
        refine xc_region ?_
        refine xo_rd (rd_loadB rfl Kn.o1 (by rfl)) rfl ?_
        refine xo_ef rfl (ef_storeB [] _ rfl rfl (by first | rfl | assumption) rfl rfl rfl ?_)
        refine xo_rd (rd_assign rfl) rfl ?_
        refine xo_nil ?_
        refine xq_seq ?_
        refine xc_ret ?_
        refine xq_then_ret ?_
      exact xq_retB2 (.inl rfl) Tryz.results69 rfl rfl Kn.o0 rfl ((List.sublist_append_right _ _).trans ((List.sublist_cons_self _ _).trans (List.sublist_cons_self _ _))) ⟨p, c, [], rfl, rfl, hr0⟩
    · have hE : leaveR ms id = 0 := by unfold leaveR; rw [hg]; rfl
      have hlen : (leaveL ms id).length + 1 = ms.length := by rw [hlv, List.length_eraseIdx, if_pos hi]; omega
      rw [hE]
      focus
        refine xq_block_hit ?_
        refine xq_seq ?_
        refine xc_seq ?_
        refine xc_seq ?_
        refine xc_region ?_
        refine xo_rd (rd_move rfl) rfl ?_
        refine xo_rd (rd_len rfl) rfl ?_
        refine xo_rd (rd_fieldAddr rfl) rfl ?_
        refine xo_rd (rd_load1 rfl (Cl.o1 rfl)) rfl ?_
        refine xo_rd (rd_len rfl) rfl ?_
        refine xo_rd (rd_eql rfl rfl) rfl ?_
        refine xo_nil ?_
        refine xq_seq ?_
        refine xc_dec rfl (fun h1 => (by exfalso; omega)) (fun h1 => ?_)
        refine xc_skip ?_
        refine xq_seq ?_
        refine xc_seq ?_
        refine xc_region ?_
        refine xo_rd (rd_fieldAddr rfl) rfl ?_
        refine xo_rd (rd_load1 rfl (Cl.o1 rfl)) rfl ?_
        refine xo_rd (rd_move rfl) rfl ?_
        refine xo_rd (rd_build rfl rfl rfl) rfl ?_
        refine xo_ef rfl (ef_storeB [] _ rfl rfl (by first | rfl | assumption) rfl rfl rfl ?_)
        refine xo_rd (rd_assign rfl) rfl ?_
        refine xo_nil ?_
        refine xq_seq ?_
        refine xc_ret ?_
      exact xq_retB2 (.inl rfl) Tryz.results69 rfl rfl Kn.o0 rfl ((List.sublist_cons_self _ _).trans (List.sublist_cons_self _ _)) ⟨po, ko, lo, rfl, rfl, hOo.rs (by intro z hz; simp [hz])⟩
theorem xf_rjoin {W : World} {L : List Blk} (L0 : List Blk) (most : Int) (ms : List Mb) (p : Option Addr) (c : Nat) (hr0 : Rs W L0 p (ms.flatMap Mb.enc)) (hs : ∀ z, z ∈ L0 → z ∈ L) (hl : ms.length ≤ 1000) (m : Mb) : XF Tryz.prog W 67 #[.agg #[.int .i64 most, .slice p ms.length c], .agg m.enc.toArray] L (fun v L' => ∃ p' c' lo, v = .tuple #[.agg #[.int .i64 most, .slice p' (joinL most ms m).length c'], .int .i64 (joinR most ms m)] ∧ L' = lo ++ L ∧ Rs W (lo ++ L0) p' ((joinL most ms m).flatMap Mb.enc)) := by
  have keep : ∀ e, joinR most ms m = e → e ≠ 0 → (∃ p' c' lo, (Value.tuple #[.agg #[.int .i64 most, .slice p ms.length c], .int .i64 e]) = .tuple #[.agg #[.int .i64 most, .slice p' (joinL most ms m).length c'], .int .i64 (joinR most ms m)] ∧ L = lo ++ L ∧ Rs W (lo ++ L0) p' ((joinL most ms m).flatMap Mb.enc)) := fun e he h0 => by
    have hJ : joinL most ms m = ms := by unfold joinL; rw [he, if_neg h0]
    rw [he, hJ]
    exact ⟨p, c, [], rfl, rfl, hr0⟩
  have hr := hr0.mono hs
  refine xf_enter (args := [_, _]) Tryz.func67 rfl Tryz.ntmps67 rfl ?_
  by_cases hr' : m.right
  · have hr2 := hr'
    unfold Mb.right at hr2
    have q1 : ¬ m.id < 0 := fun h => hr2 (.inl h)
    have q2 : ¬ m.content = 0 := fun h => hr2 (.inr (.inl h))
    have q3 : ¬ m.camera = 0 := fun h => hr2 (.inr (.inr (.inl h)))
    have q4 : ¬ m.content = m.camera := fun h => hr2 (.inr (.inr (.inr h)))
    focus
      refine xc_seq ?_
      refine xc_region ?_
      refine xo_ef rfl (ef_box rfl fun r2 => ?_)
      refine xo_ef rfl (ef_box rfl fun r3 => ?_)
      refine xo_ef rfl (ef_alloc fun r4 => ?_)
      refine xo_rd (rd_assign rfl) rfl ?_
      refine xo_nil ?_
      refine xq_seq ?_
      refine xc_seq ?_
      refine xc_seq ?_
      refine xc_region ?_
      refine xo_rd (rd_fieldAddr rfl) rfl ?_
      refine xo_rd (rd_load1 rfl (Cl.o1 rfl)) rfl ?_
      refine xo_rd (rd_lss rfl rfl) rfl ?_
      refine xo_rd (rd_move rfl) rfl ?_
      refine xo_dec 18 rfl (fun hj1 => (by exfalso; omega)) (fun hj1 => ?_)
      refine xo_grd rfl rfl (rd_fieldAddr rfl) rfl ?_
      refine xo_grd rfl rfl (rd_load1 rfl (Cl.o1 rfl)) rfl ?_
      refine xo_grd rfl rfl (rd_eql rfl rfl) rfl ?_
      refine xo_rd (rd_pickf rfl rfl) rfl ?_
      refine xo_rd (rd_move rfl) rfl ?_
      refine xo_dec 23 rfl (fun hj2 => (by exfalso; omega)) (fun hj2 => ?_)
      refine xo_grd rfl rfl (rd_fieldAddr rfl) rfl ?_
      refine xo_grd rfl rfl (rd_load1 rfl (Cl.o1 rfl)) rfl ?_
      refine xo_grd rfl rfl (rd_eql rfl rfl) rfl ?_
      refine xo_rd (rd_pickf rfl rfl) rfl ?_
      refine xo_rd (rd_move rfl) rfl ?_
      refine xo_dec 28 rfl (fun hj3 => (by exfalso; omega)) (fun hj3 => ?_)
      refine xo_grd rfl rfl (rd_fieldAddr rfl) rfl ?_
      refine xo_grd rfl rfl (rd_load1 rfl (Cl.o1 rfl)) rfl ?_
      refine xo_grd rfl rfl (rd_fieldAddr rfl) rfl ?_
      refine xo_grd rfl rfl (rd_load1 rfl (Cl.o1 rfl)) rfl ?_
      refine xo_grd rfl rfl (rd_eql rfl rfl) rfl ?_
      refine xo_rd (rd_pickf rfl rfl) rfl ?_
      refine xo_nil ?_
      refine xq_seq ?_
      refine xc_dec rfl (fun hj4 => (by exfalso; omega)) (fun hj4 => ?_)
      refine xc_skip ?_
      refine xq_seq ?_
      refine xc_seq ?_
      refine xc_region ?_
      refine xo_rd (rd_loadB rfl Kn.o2 (by rfl)) rfl ?_
      refine xo_rd (rd_fieldAddr rfl) rfl ?_
      refine xo_rd (rd_load1 rfl (Cl.o1 rfl)) rfl ?_
      refine xo_ef rfl (ef_call rfl (XF.mono (xf_rget most ms p c (hr.mono (by intro z hz; simp [hz])) hl m.id) ?_))
      rintro v L' ⟨rfl, rfl⟩
      refine xo_rd (rd_move rfl) rfl ?_
      refine xo_rd (rd_extract rfl rfl) rfl ?_
      refine xo_rd (rd_extract rfl rfl) rfl ?_
      refine xo_ef rfl (ef_alloc fun r6 => ?_)
      refine xo_ef rfl (ef_storeB [] _ rfl rfl (by first | rfl | assumption) rfl rfl rfl ?_)
      refine xo_rd (rd_assign rfl) rfl ?_
      refine xo_nil ?_
      refine xq_seq ?_
      refine xc_seq ?_
      refine xc_seq ?_
      refine xc_region ?_
      refine xo_rd (rd_move rfl) rfl ?_
      refine xo_nil ?_
      refine xq_seq ?_
      refine xc_cond rfl (fun hj5 => ?_) (fun hj5 => ?_)
      refine xc_seq ?_
      refine xc_region ?_
      refine xo_rd (rd_loadB rfl Kn.o3 (by rfl)) rfl ?_
      refine xo_ef rfl (ef_storeB [_] _ rfl rfl (by first | rfl | assumption) rfl rfl rfl ?_)
      refine xo_rd (rd_assign rfl) rfl ?_
      refine xo_nil ?_
      refine xq_seq ?_
      refine xc_ret ?_
      refine xq_then_ret ?_
      rotate_left
      refine xc_skip ?_
      refine xq_seq ?_
      refine xc_seq ?_
      refine xc_region ?_
      refine xo_rd (rd_loadB rfl Kn.o3 (by rfl)) rfl ?_
      refine xo_rd (rd_fieldAddr rfl) rfl ?_
      refine xo_rd (rd_load1 rfl (Cl.o2 rfl)) rfl ?_
      refine xo_ef rfl (ef_call rfl (XF.mono (xf_rsource most ms p c (hr.mono (by intro z hz; simp [hz])) hl m.content) ?_))
      rintro v L' ⟨rfl, rfl⟩
      refine xo_rd (rd_move rfl) rfl ?_
      refine xo_rd (rd_extract rfl rfl) rfl ?_
      refine xo_rd (rd_extract rfl rfl) rfl ?_
      refine xo_rd (rd_extract rfl rfl) rfl ?_
      refine xo_ef rfl (ef_alloc fun r8 => ?_)
      refine xo_ef rfl (ef_storeB [] _ rfl rfl (by first | rfl | assumption) rfl rfl rfl ?_)
      refine xo_rd (rd_assign rfl) rfl ?_
      refine xo_rd (rd_assign rfl) rfl ?_
      refine xo_nil ?_
      refine xq_seq ?_
      refine xc_seq ?_
      refine xc_region ?_
      refine xo_rd (rd_loadB rfl Kn.o4 (by rfl)) rfl ?_
      refine xo_rd (rd_fieldAddr rfl) rfl ?_
      refine xo_rd (rd_load1 rfl (Cl.o3 rfl)) rfl ?_
      refine xo_ef rfl (ef_call rfl (XF.mono (xf_rsource most ms p c (hr.mono (by intro z hz; simp [hz])) hl m.camera) ?_))
      rintro v L' ⟨rfl, rfl⟩
      refine xo_rd (rd_move rfl) rfl ?_
      refine xo_rd (rd_extract rfl rfl) rfl ?_
      refine xo_rd (rd_extract rfl rfl) rfl ?_
      refine xo_rd (rd_extract rfl rfl) rfl ?_
      refine xo_ef rfl (ef_alloc fun r11 => ?_)
      refine xo_ef rfl (ef_storeB [] _ rfl rfl (by first | rfl | assumption) rfl rfl rfl ?_)
      refine xo_rd (rd_assign rfl) rfl ?_
      refine xo_rd (rd_assign rfl) rfl ?_
      refine xo_nil ?_
      refine xq_seq ?_
      refine xc_seq ?_
      refine xc_seq ?_
      refine xc_region ?_
      refine xo_rd (rd_move rfl) rfl ?_
      refine xo_rd (rd_move rfl) rfl ?_
      refine xo_split 62 rfl (fun hj6 => ?_) (fun hj6 => ?_)
      refine xo_gskip rfl rfl rfl rfl ?_
      refine xo_rd (rd_pickt rfl rfl) rfl ?_
      refine xo_nil ?_
      refine xq_seq ?_
      refine xc_condt rfl ?_
      refine xc_seq ?_
      refine xc_region ?_
      refine xo_rd (rd_loadB rfl Kn.o5 (by rfl)) rfl ?_
      refine xo_ef rfl (ef_storeB [_, _, _] _ rfl rfl (by first | rfl | assumption) rfl rfl rfl ?_)
      refine xo_rd (rd_assign rfl) rfl ?_
      refine xo_nil ?_
      refine xq_seq ?_
      refine xc_ret ?_
      refine xq_then_ret ?_
      rotate_left
      refine xo_grd rfl rfl (rd_move rfl) rfl ?_
      refine xo_rd (rd_pickf rfl rfl) rfl ?_
      refine xo_nil ?_
      refine xq_seq ?_
      refine xc_cond rfl (fun hj7 => ?_) (fun hj7 => ?_)
      refine xc_seq ?_
      refine xc_region ?_
      refine xo_rd (rd_loadB rfl Kn.o5 (by rfl)) rfl ?_
      refine xo_ef rfl (ef_storeB [_, _, _] _ rfl rfl (by first | rfl | assumption) rfl rfl rfl ?_)
      refine xo_rd (rd_assign rfl) rfl ?_
      refine xo_nil ?_
      refine xq_seq ?_
      refine xc_ret ?_
      refine xq_then_ret ?_
      rotate_left
      refine xc_skip ?_
      refine xq_seq ?_
      refine xc_seq ?_
      refine xc_seq ?_
      refine xc_region ?_
      refine xo_rd (rd_fieldAddr rfl) rfl ?_
      refine xo_rd (rd_load1 rfl (Cl.o5 rfl)) rfl ?_
      refine xo_rd (rd_len rfl) rfl ?_
      refine xo_rd (rd_fieldAddr rfl) rfl ?_
      refine xo_rd (rd_load1 rfl (Cl.o5 rfl)) rfl ?_
      refine xo_rd (rd_geq rfl rfl) rfl ?_
      refine xo_nil ?_
      refine xq_seq ?_
      refine xc_dec rfl (fun hj8 => ?_) (fun hj8 => ?_)
      refine xc_seq ?_
      refine xc_region ?_
      refine xo_rd (rd_loadB rfl Kn.o5 (by rfl)) rfl ?_
      refine xo_ef rfl (ef_storeB [_, _, _] _ rfl rfl (by first | rfl | assumption) rfl rfl rfl ?_)
      refine xo_rd (rd_assign rfl) rfl ?_
      refine xo_nil ?_
      refine xq_seq ?_
      refine xc_ret ?_
      refine xq_then_ret ?_
      rotate_left
      refine xc_skip ?_
      refine xq_seq ?_
      refine xc_seq ?_
      refine xc_region ?_
      refine xo_rd (rd_assign rfl) rfl ?_
      refine xo_nil ?_
      refine xq_seq ?_
      refine xc_seq ?_
      refine xc_region ?_
      refine xo_rd (rd_move rfl) rfl ?_
      refine xo_rd (rd_fieldAddr rfl) rfl ?_
      refine xo_rd (rd_load1 rfl (Cl.o5 rfl)) rfl ?_
      rotate_left
    · have hE : joinR most ms m = 132 := by unfold joinR; rw [if_neg (fun h => h hr'), if_pos hj5]
      exact xq_retB2 (.inl rfl) Tryz.results67 rfl rfl (.inr (List.Mem.tail _ (List.Mem.head _))) rfl ((List.sublist_cons_self _ _).trans ((List.sublist_cons_self _ _).trans ((List.sublist_cons_self _ _).trans (List.sublist_cons_self _ _)))) (keep 132 hE (by decide))
    · have hE : joinR most ms m = 140 := by unfold joinR; rw [if_neg (fun h => h hr'), if_neg (by simp [hj5]), if_pos (.inl hj6)]
      exact xq_retB2 (.inl rfl) Tryz.results67 rfl rfl (.inr (List.Mem.tail _ (List.Mem.tail _ (List.Mem.tail _ (List.Mem.head _))))) rfl ((List.sublist_cons_self _ _).trans ((List.sublist_cons_self _ _).trans ((List.sublist_cons_self _ _).trans ((List.sublist_cons_self _ _).trans ((List.sublist_cons_self _ _).trans (List.sublist_cons_self _ _)))))) (keep 140 hE (by decide))
    · have hE : joinR most ms m = 140 := by unfold joinR; rw [if_neg (fun h => h hr'), if_neg (by simp [hj5]), if_pos (.inr hj7)]
      exact xq_retB2 (.inl rfl) Tryz.results67 rfl rfl (.inr (List.Mem.tail _ (List.Mem.tail _ (List.Mem.tail _ (List.Mem.head _))))) rfl ((List.sublist_cons_self _ _).trans ((List.sublist_cons_self _ _).trans ((List.sublist_cons_self _ _).trans ((List.sublist_cons_self _ _).trans ((List.sublist_cons_self _ _).trans (List.sublist_cons_self _ _)))))) (keep 140 hE (by decide))
    · have hE : joinR most ms m = 131 := by unfold joinR; rw [if_neg (fun h => h hr'), if_neg (by simp [hj5]), if_neg (by simp [hj6, hj7]), if_pos hj8]
      exact xq_retB2 (.inl rfl) Tryz.results67 rfl rfl (.inr (List.Mem.tail _ (List.Mem.tail _ (List.Mem.tail _ (List.Mem.head _))))) rfl ((List.sublist_cons_self _ _).trans ((List.sublist_cons_self _ _).trans ((List.sublist_cons_self _ _).trans ((List.sublist_cons_self _ _).trans ((List.sublist_cons_self _ _).trans (List.sublist_cons_self _ _)))))) (keep 131 hE (by decide))
    · have hE : joinR most ms m = 0 := by unfold joinR; rw [if_neg (fun h => h hr'), if_neg (by simp [hj5]), if_neg (by simp [hj6, hj7]), if_neg hj8]
      have hJ : joinL most ms m = ms ++ [m] := by unfold joinL; rw [if_pos hE]
      rw [hE, hJ]
      refine xo_ef rfl (ef_append [_, _, _, _, _, _] L [] rfl rfl SlO.nil rfl (hr.mono (by intro z hz; simp [hz])) (flat_length Mb.enc Mb.len _) (Mb.one _) (by decide) (by omega) (by omega) fun v3 lo hO3 => ?_)
      simp only [Nat.zero_add, List.nil_append] at hO3
      obtain ⟨p3, k3, rfl, hO3, _⟩ := hO3.opn
      focus
        refine xo_rd (rd_assign rfl) rfl ?_
        refine xo_nil ?_
        refine xq_seq ?_
        refine xc_seq ?_
        refine xc_drawM [0, 1, 0, 0, 8, 20, 34, 127, 255] [0, 1, 0, 0, 8, 20, 34, 127, 255] [(r3, .cells m.enc.toArray 88 (0, 0)), (r2, .cells #[.int .i64 most, .slice p ms.length c] 34 (0, 0))] (by kernel_rfl) (by kernel_rfl) (by kernel_rfl) ?_
        refine xm_take 0 (m' := 1) rfl (by kernel_rfl) Sb.a (rd_fieldAddr rfl) rfl (by kernel_rfl) ?_
        refine xm_take 1 (m' := 3) rfl (by kernel_rfl) Sb.a (rd_load1 rfl (Cl.o1 rfl)) rfl (by kernel_rfl) ?_
        refine xm_take 2 (m' := 7) rfl (by kernel_rfl) Sb.a (rd_move rfl) rfl (by kernel_rfl) ?_
        refine xm_take 3 (m' := 15) rfl (by kernel_rfl) Sb.a (rd_loadB rfl Kn.o0 (by rfl)) rfl (by kernel_rfl) ?_
        refine xm_one 4 (m' := 31) rfl (by kernel_rfl) rfl (by kernel_rfl) (ef_sliceA (vs := m.enc) rfl rfl (by rw [Mb.len]; decide) (by rw [Mb.len]; decide) fun r81 => ?_)
        refine ⟨Sb.a, ?_⟩
        refine xm_one 5 (m' := 63) rfl (by kernel_rfl) rfl (by kernel_rfl) (ef_appendS [_, _, _, _, _, _, _] _ lo rfl rfl hO3 rfl (Rs.fresh (List.Mem.head _)) rfl rfl (by decide) (by omega) (by omega) fun q4 k4 lo4 hO4 hk4 => ?_)
        refine ⟨Sb.a, ?_⟩
        refine xm_take 6 (m' := 127) rfl (by kernel_rfl) Sb.a (rd_build rfl rfl rfl) rfl (by kernel_rfl) ?_
        refine xm_one 7 (m' := 255) rfl (by kernel_rfl) rfl (by kernel_rfl) (ef_storeB [_, _, _, _] _ rfl rfl (by first | rfl | assumption) rfl rfl rfl ?_)
        refine ⟨Sb.a, ?_⟩
        refine xm_take 8 (m' := 511) rfl (by kernel_rfl) Sb.a (rd_assign rfl) rfl (by kernel_rfl) ?_
        refine xm_done (by kernel_rfl) ?_
        refine xq_seq ?_
        refine xc_ret ?_
      exact xq_retB2 (.inl rfl) Tryz.results67 rfl rfl (.inr (List.Mem.tail _ (List.Mem.tail _ (List.Mem.tail _ (List.Mem.tail _ (List.Mem.head _)))))) rfl (List.sublist_append_right [_, _, _, _, _, _, _] _) ⟨q4, k4, lo4, by rw [List.length_append]; rfl, rfl, by rw [List.flatMap_append]; simpa using hO4.rs (by intro z hz; simp [hz])⟩
  · have hE : joinR most ms m = 2 := by unfold joinR; rw [if_pos hr']
    have hk := keep 2 hE (by decide)
    focus
      refine xc_seq ?_
      refine xc_region ?_
      refine xo_ef rfl (ef_box rfl fun r2 => ?_)
      refine xo_ef rfl (ef_box rfl fun r3 => ?_)
      refine xo_ef rfl (ef_alloc fun r4 => ?_)
      refine xo_rd (rd_assign rfl) rfl ?_
      refine xo_nil ?_
      refine xq_seq ?_
      refine xc_seq ?_
      refine xc_seq ?_
      refine xc_region ?_
      refine xo_rd (rd_fieldAddr rfl) rfl ?_
      refine xo_rd (rd_load1 rfl (Cl.o1 rfl)) rfl ?_
      refine xo_rd (rd_lss rfl rfl) rfl ?_
      refine xo_rd (rd_move rfl) rfl ?_
      refine xo_dec 18 rfl (fun hj1 => ?_) (fun hj1 => ?_)
      refine xo_gskip rfl rfl rfl rfl ?_
      refine xo_gskip rfl rfl rfl rfl ?_
      refine xo_gskip rfl rfl rfl rfl ?_
      refine xo_rd (rd_pickt rfl rfl) rfl ?_
      refine xo_rd (rd_move rfl) rfl ?_
      refine xo_gskip rfl rfl rfl rfl ?_
      refine xo_gskip rfl rfl rfl rfl ?_
      refine xo_gskip rfl rfl rfl rfl ?_
      refine xo_rd (rd_pickt rfl rfl) rfl ?_
      refine xo_rd (rd_move rfl) rfl ?_
      refine xo_gskip rfl rfl rfl rfl ?_
      refine xo_gskip rfl rfl rfl rfl ?_
      refine xo_gskip rfl rfl rfl rfl ?_
      refine xo_gskip rfl rfl rfl rfl ?_
      refine xo_gskip rfl rfl rfl rfl ?_
      refine xo_rd (rd_pickt rfl rfl) rfl ?_
      refine xo_nil ?_
      refine xq_seq ?_
      refine xc_condt rfl ?_
      refine xc_seq ?_
      refine xc_region ?_
      refine xo_rd (rd_loadB rfl Kn.o2 (by rfl)) rfl ?_
      refine xo_ef rfl (ef_storeB [] _ rfl rfl (by first | rfl | assumption) rfl rfl rfl ?_)
      refine xo_rd (rd_assign rfl) rfl ?_
      refine xo_nil ?_
      refine xq_seq ?_
      refine xc_ret ?_
      refine xq_then_ret ?_
      rotate_left
      refine xo_grd rfl rfl (rd_fieldAddr rfl) rfl ?_
      refine xo_grd rfl rfl (rd_load1 rfl (Cl.o1 rfl)) rfl ?_
      refine xo_grd rfl rfl (rd_eql rfl rfl) rfl ?_
      refine xo_rd (rd_pickf rfl rfl) rfl ?_
      refine xo_rd (rd_move rfl) rfl ?_
      refine xo_dec 23 rfl (fun hj2 => ?_) (fun hj2 => ?_)
      refine xo_gskip rfl rfl rfl rfl ?_
      refine xo_gskip rfl rfl rfl rfl ?_
      refine xo_gskip rfl rfl rfl rfl ?_
      refine xo_rd (rd_pickt rfl rfl) rfl ?_
      refine xo_rd (rd_move rfl) rfl ?_
      refine xo_gskip rfl rfl rfl rfl ?_
      refine xo_gskip rfl rfl rfl rfl ?_
      refine xo_gskip rfl rfl rfl rfl ?_
      refine xo_gskip rfl rfl rfl rfl ?_
      refine xo_gskip rfl rfl rfl rfl ?_
      refine xo_rd (rd_pickt rfl rfl) rfl ?_
      refine xo_nil ?_
      refine xq_seq ?_
      refine xc_condt rfl ?_
      refine xc_seq ?_
      refine xc_region ?_
      refine xo_rd (rd_loadB rfl Kn.o2 (by rfl)) rfl ?_
      refine xo_ef rfl (ef_storeB [] _ rfl rfl (by first | rfl | assumption) rfl rfl rfl ?_)
      refine xo_rd (rd_assign rfl) rfl ?_
      refine xo_nil ?_
      refine xq_seq ?_
      refine xc_ret ?_
      refine xq_then_ret ?_
      rotate_left
      refine xo_grd rfl rfl (rd_fieldAddr rfl) rfl ?_
      refine xo_grd rfl rfl (rd_load1 rfl (Cl.o1 rfl)) rfl ?_
      refine xo_grd rfl rfl (rd_eql rfl rfl) rfl ?_
      refine xo_rd (rd_pickf rfl rfl) rfl ?_
      refine xo_rd (rd_move rfl) rfl ?_
      refine xo_dec 28 rfl (fun hj3 => ?_) (fun hj3 => ?_)
      refine xo_gskip rfl rfl rfl rfl ?_
      refine xo_gskip rfl rfl rfl rfl ?_
      refine xo_gskip rfl rfl rfl rfl ?_
      refine xo_gskip rfl rfl rfl rfl ?_
      refine xo_gskip rfl rfl rfl rfl ?_
      refine xo_rd (rd_pickt rfl rfl) rfl ?_
      refine xo_nil ?_
      refine xq_seq ?_
      refine xc_condt rfl ?_
      refine xc_seq ?_
      refine xc_region ?_
      refine xo_rd (rd_loadB rfl Kn.o2 (by rfl)) rfl ?_
      refine xo_ef rfl (ef_storeB [] _ rfl rfl (by first | rfl | assumption) rfl rfl rfl ?_)
      refine xo_rd (rd_assign rfl) rfl ?_
      refine xo_nil ?_
      refine xq_seq ?_
      refine xc_ret ?_
      refine xq_then_ret ?_
      rotate_left
      refine xo_grd rfl rfl (rd_fieldAddr rfl) rfl ?_
      refine xo_grd rfl rfl (rd_load1 rfl (Cl.o1 rfl)) rfl ?_
      refine xo_grd rfl rfl (rd_fieldAddr rfl) rfl ?_
      refine xo_grd rfl rfl (rd_load1 rfl (Cl.o1 rfl)) rfl ?_
      refine xo_grd rfl rfl (rd_eql rfl rfl) rfl ?_
      refine xo_rd (rd_pickf rfl rfl) rfl ?_
      refine xo_nil ?_
      refine xq_seq ?_
      refine xc_dec rfl (fun hj4 => ?_) (fun hj4 => ?_)
      refine xc_seq ?_
      refine xc_region ?_
      refine xo_rd (rd_loadB rfl Kn.o2 (by rfl)) rfl ?_
      refine xo_ef rfl (ef_storeB [] _ rfl rfl (by first | rfl | assumption) rfl rfl rfl ?_)
      refine xo_rd (rd_assign rfl) rfl ?_
      refine xo_nil ?_
      refine xq_seq ?_
      refine xc_ret ?_
      refine xq_then_ret ?_
      rotate_left
      refine xc_skip ?_
      refine xq_seq ?_
      rotate_left
    · exact xq_retB2 (.inl rfl) Tryz.results67 rfl rfl Kn.o0 rfl ((List.sublist_cons_self _ _).trans ((List.sublist_cons_self _ _).trans (List.sublist_cons_self _ _))) hk
    · exact xq_retB2 (.inl rfl) Tryz.results67 rfl rfl Kn.o0 rfl ((List.sublist_cons_self _ _).trans ((List.sublist_cons_self _ _).trans (List.sublist_cons_self _ _))) hk
    · exact xq_retB2 (.inl rfl) Tryz.results67 rfl rfl Kn.o0 rfl ((List.sublist_cons_self _ _).trans ((List.sublist_cons_self _ _).trans (List.sublist_cons_self _ _))) hk
    · exact xq_retB2 (.inl rfl) Tryz.results67 rfl rfl Kn.o0 rfl ((List.sublist_cons_self _ _).trans ((List.sublist_cons_self _ _).trans (List.sublist_cons_self _ _))) hk
    · refine absurd ?_ hr'
      unfold Mb.right
      rintro (h | h | h | h)
      · exact hj1 h
      · exact hj2 h
      · exact hj3 h
      · exact hj4 h
end Go.Proofs.YtmdeajdaeihniaaGreat.X
