/-
  Texts of my own, put together: walks and laws for this seat. No condition.
-/
import Derived.Test.YtmdeajdaeihniaaGreatN10
import Derived.Test.YtmdeajdaeihniaaGreatN11
/-
  Chapter 25: what holds of a room, whatever is called: no program in sight, no condition.
-/
namespace Go.Proofs.YtmdeajdaeihniaaGreat.X
open Go Go.RowKit
set_option linter.unusedVariables false
set_option linter.unusedSimpArgs false
/-- What holds of a floor, told of who is there. -/
structure FI (f : Fa) (ids : List Int) (i : Nat) : Prop where
  hd : f.held = true → f.who ∈ ids
  wt : ∀ z, z ∈ f.wt → z ∈ ids
  fr : f.held = false → f.who = 0
  he : 0 ≤ f.heard
  gs : f.gs.length ≤ i
theorem FI.up {f : Fa} {ids : List Int} {i : Nat} (h : FI f ids i) : FI f ids (i + 1) := ⟨h.hd, h.wt, h.fr, h.he, by have := h.gs; omega⟩
theorem FI.grant {f : Fa} {ids : List Int} {i : Nat} {w now : Int} (h : FI f ids i) (hw : w ∈ ids) (hn : 0 ≤ now) : FI (grantF f w now) ids (i + 1) :=
  ⟨fun _ => hw, h.wt, (fun e => by cases e), hn, by unfold grantF; dsimp only; rw [List.length_append]; have := h.gs; simp; omega⟩
theorem FI.fin {f : Fa} {ids : List Int} {i : Nat} {now : Int} (h : FI f ids i) (hn : 0 ≤ now) : FI (endF f now) ids (i + 1) := by
  unfold endF
  cases hw : f.wt with
  | nil => exact ⟨(fun e => by cases e), (fun z hz => by cases hz), (fun _ => rfl), Int.le_refl _, by show f.gs.length ≤ _; have := h.gs; omega⟩
  | cons w r =>
    have hwm : ∀ z, z ∈ w :: r → z ∈ ids := fun z hz => h.wt z (by rw [hw]; exact hz)
    have h2 : FI (freeF f r) ids i := ⟨(fun e => by cases e), (fun z hz => hwm z (List.mem_cons_of_mem _ hz)), (fun _ => rfl), Int.le_refl _, h.gs⟩
    exact h2.grant (hwm w List.mem_cons_self) hn
/-- What holds of a room. -/
structure Inv (M : Int) (a : Ra) (i : Nat) : Prop where
  mo : a.most = M ∧ M ≤ 32
  id : a.ws.map Wa.id = a.ms.map Mb.id
  nd : (a.ms.map Mb.id).Nodup
  rg : ∀ z, z ∈ a.ms.map Mb.id → 0 ≤ z ∧ z ≤ 2147483647
  fm : ∀ z, isM a.fl.ms z = true ↔ z ∈ a.ms.map Mb.id
  fn : (a.fl.ms.map (·.1)).Nodup
  fi : FI a.fl (a.ms.map Mb.id) i
  cm : ∀ w, w ∈ a.ws → w.cs.Nodup ∧ ∀ c, c ∈ w.cs → c ∈ a.ms.map Mb.id ∧ c ≠ w.id
  ln : (a.ms.length : Int) ≤ M
theorem Inv.up {M : Int} {a : Ra} {i : Nat} (h : Inv M a i) : Inv M a (i + 1) := ⟨h.mo, h.id, h.nd, h.rg, h.fm, h.fn, h.fi.up, h.cm, h.ln⟩
theorem Inv.fl {M : Int} {a : Ra} {i : Nat} (h : Inv M a i) {g : Fa} (hm : g.ms = a.fl.ms) (hf : FI g (a.ms.map Mb.id) (i + 1)) : Inv M { a with fl := g } (i + 1) :=
  ⟨h.mo, h.id, h.nd, h.rg, by dsimp only; rw [hm]; exact h.fm, by dsimp only; rw [hm]; exact h.fn, hf, h.cm, h.ln⟩
theorem endF_ms (f : Fa) (now : Int) : (endF f now).ms = f.ms := by unfold endF; split <;> rfl
theorem getId_mem' {l : List Mb} {z : Int} : (getId l z).isSome = true ↔ z ∈ l.map Mb.id := by
  unfold getId
  rw [List.find?_isSome, List.mem_map]
  simp
theorem Inv.len {M : Int} {a : Ra} {i : Nat} (h : Inv M a i) : a.fl.ms.length = a.ms.length := by
  have hp : (a.fl.ms.map (·.1)).Perm (a.ms.map Mb.id) := (List.perm_ext_iff_of_nodup h.fn h.nd).2 fun z => by rw [← h.fm z, isM_mem]
  have := hp.length_eq
  rwa [List.length_map, List.length_map] at this
theorem Inv.join {M : Int} {a : Ra} {i : Nat} (h : Inv M a i) (m : Mb) : Inv M (jnA a m) (i + 1) := by
  unfold jnA
  by_cases he : jnE a m = 0
  case neg => rw [if_neg he]; exact h.up
  rw [if_pos he]
  unfold jnE at he
  by_cases hbig : 2147483647 < m.id
  · rw [if_pos hbig] at he; cases he
  rw [if_neg hbig] at he
  obtain ⟨hr, hg⟩ := joinR_ok he
  have hni : m.id ∉ a.ms.map Mb.id := getId_none hg
  have hid0 : 0 ≤ m.id := by
    rcases Int.lt_or_le m.id 0 with h | h
    · exact absurd (.inl h) hr
    · exact h
  have hm32 := h.mo.2
  have hlen : (a.ms.length : Int) < M := by
    have hmo := h.mo.1
    unfold joinR at he
    rw [if_neg (Decidable.not_not.2 hr), if_neg (by rw [hg]; decide)] at he
    split at he
    · cases he
    · split at he
      · cases he
      · omega
  have him : isM a.fl.ms m.id = false := by
    cases hm : isM a.fl.ms m.id with
    | false => rfl
    | true => exact absurd ((h.fm m.id).1 hm) hni
  have hjE : joinE a.fl m.id = 0 := by
    unfold joinE
    rw [him, if_neg (by decide), if_neg (by rw [h.len]; omega)]
  have hjF : joinF a.fl m.id m.mod = { a.fl with ms := insM m.id m.mod a.fl.ms } := by unfold joinF; rw [if_pos hjE]
  have hids : (a.ms ++ [m]).map Mb.id = a.ms.map Mb.id ++ [m.id] := by rw [List.map_append]; rfl
  refine ⟨h.mo, ?_, ?_, ?_, ?_, ?_, ?_, ?_, by dsimp only; rw [List.length_append, List.length_singleton]; omega⟩
  · dsimp only
    rw [List.map_append, h.id, hids]; rfl
  · dsimp only
    rw [hids]
    refine List.nodup_append.2 ⟨h.nd, by simp, fun x hx y hy e => ?_⟩
    rw [List.mem_singleton] at hy
    subst hy; subst e
    exact hni hx
  · dsimp only
    rw [hids]
    intro z hz
    rcases List.mem_append.1 hz with h1 | h1
    · exact h.rg z h1
    · rw [List.mem_singleton.1 h1]; omega
  · dsimp only
    rw [hids, hjF]
    intro z
    dsimp only
    rw [isM_mem, List.mem_append, List.mem_singleton, ← h.fm, isM_mem]
    constructor
    · intro hz
      obtain ⟨e, he, rfl⟩ := List.mem_map.1 hz
      rcases insM_mem.1 he with rfl | he
      · exact .inr rfl
      · exact .inl (List.mem_map.2 ⟨e, he, rfl⟩)
    · rintro (hz | rfl)
      · obtain ⟨e, he, rfl⟩ := List.mem_map.1 hz
        exact List.mem_map.2 ⟨e, insM_mem.2 (.inr he), rfl⟩
      · exact List.mem_map.2 ⟨(m.id, m.mod), insM_mem.2 (.inl rfl), rfl⟩
  · dsimp only
    rw [hjF]
    exact insM_nodup h.fn him
  · dsimp only
    rw [hids, hjF]
    have hf := h.fi
    exact ⟨fun e => List.mem_append_left _ (hf.hd e), fun z hz => List.mem_append_left _ (hf.wt z hz), hf.fr, hf.he, by have := hf.gs; show a.fl.gs.length ≤ _; omega⟩
  · dsimp only
    rw [hids]
    intro w hw
    rcases List.mem_append.1 hw with h1 | h1
    · exact ⟨(h.cm w h1).1, fun c hc => ⟨List.mem_append_left _ ((h.cm w h1).2 c hc).1, ((h.cm w h1).2 c hc).2⟩⟩
    · rw [List.mem_singleton.1 h1]; exact ⟨List.nodup_nil, fun c hc => by cases hc⟩
theorem filt_erase {l : List Int} {z : Int} (h : l.Nodup) : l.filter (fun x => !decide (x = z)) = l.erase z := by
  rw [h.erase_eq_filter]
  refine List.filter_congr fun x _ => ?_
  simp [bne]
  cases hd : decide (x = z) <;> simp_all
theorem Inv.leave {M : Int} {a : Ra} {i : Nat} (h : Inv M a i) (id now : Int) (hn : 0 ≤ now) : Inv M (lvA a id now) (i + 1) := by
  unfold lvA
  by_cases he : lvE a id = 0
  case neg => rw [if_neg he]; exact h.up
  rw [if_pos he]
  have hm : id ∈ a.ms.map Mb.id := by
    unfold lvE leaveR at he
    split at he
    · rename_i hs; exact getId_mem'.1 hs
    · cases he
  have him : isM a.fl.ms id = true := (h.fm id).2 hm
  have hids : (leaveL a.ms id).map Mb.id = (a.ms.map Mb.id).erase id := ids_leave a.ms id
  have hmem : ∀ z, z ∈ (a.ms.map Mb.id).erase id ↔ z ≠ id ∧ z ∈ a.ms.map Mb.id := fun z => h.nd.mem_erase_iff
  have hout : FI (outF a.fl id) ((a.ms.map Mb.id).erase id) i ∨ holdsA a.fl id = true := by
    by_cases hh : holdsA a.fl id = true
    · exact .inr hh
    · refine .inl ⟨fun e => ?_, fun z hz => ?_, h.fi.fr, h.fi.he, h.fi.gs⟩
      · rw [hmem]
        refine ⟨fun e2 => hh ?_, h.fi.hd e⟩
        unfold holdsA
        rw [show a.fl.held = true from e, decide_eq_true (show a.fl.who = id from e2)]; rfl
      · have := List.mem_filter.1 hz
        rw [hmem]
        exact ⟨by simpa using this.2, h.fi.wt z this.1⟩
  have hfl : FI (leaveF a.fl id now) ((a.ms.map Mb.id).erase id) (i + 1) := by
    unfold leaveF
    rw [if_pos him]
    by_cases hh : holdsA a.fl id = true
    · rw [if_pos hh]
      unfold endF
      have hwt : ∀ z, z ∈ (outF a.fl id).wt → z ∈ (a.ms.map Mb.id).erase id := fun z hz => by
        have := List.mem_filter.1 hz
        rw [hmem]
        exact ⟨by simpa using this.2, h.fi.wt z this.1⟩
      cases hw : (outF a.fl id).wt with
      | nil => exact ⟨(fun e => by cases e), (fun z hz => by cases hz), (fun _ => rfl), Int.le_refl _, by show a.fl.gs.length ≤ _; have := h.fi.gs; omega⟩
      | cons w r =>
        rw [hw] at hwt
        have h2 : FI (freeF (outF a.fl id) r) ((a.ms.map Mb.id).erase id) i := ⟨(fun e => by cases e), (fun z hz => hwt z (List.mem_cons_of_mem _ hz)), (fun _ => rfl), Int.le_refl _, h.fi.gs⟩
        exact h2.grant (hwt w List.mem_cons_self) hn
    · rw [if_neg hh]
      rcases hout with h1 | h1
      · exact h1.up
      · exact absurd h1 hh
  have hms : (leaveF a.fl id now).ms = a.fl.ms.filter fun e => !(e.1 == id) := by
    unfold leaveF
    rw [if_pos him]
    split
    · rw [endF_ms]; rfl
    · rfl
  refine ⟨h.mo, ?_, ?_, ?_, ?_, ?_, ?_, ?_, ?_⟩
  · dsimp only
    rw [hids, List.map_map, ← h.id, ← filt_erase (h.id ▸ h.nd), List.filter_map]
    rfl
  · dsimp only; rw [hids]; exact h.nd.erase _
  · dsimp only; rw [hids]; exact fun z hz => h.rg z ((hmem z).1 hz).2
  · dsimp only
    rw [hids, hms]
    intro z
    rw [hmem, ← h.fm, isM_mem, isM_mem]
    constructor
    · intro hz
      obtain ⟨e, he, rfl⟩ := List.mem_map.1 hz
      have := List.mem_filter.1 he
      exact ⟨by simpa using this.2, List.mem_map.2 ⟨e, this.1, rfl⟩⟩
    · rintro ⟨h1, h2⟩
      obtain ⟨e, he, rfl⟩ := List.mem_map.1 h2
      exact List.mem_map.2 ⟨e, List.mem_filter.2 ⟨he, by simpa using h1⟩, rfl⟩
  · dsimp only; rw [hms]; exact out_nodup h.fn
  · dsimp only; rw [hids]; exact hfl
  · dsimp only
    rw [hids]
    intro w hw
    obtain ⟨u, hu, rfl⟩ := List.mem_map.1 hw
    have hu2 := List.mem_filter.1 hu
    have hc := h.cm u hu2.1
    refine ⟨hc.1.sublist List.filter_sublist, fun c hcm => ?_⟩
    have h3 := List.mem_filter.1 hcm
    exact ⟨(hmem c).2 ⟨by simpa using h3.2, (hc.2 c h3.1).1⟩, (hc.2 c h3.1).2⟩
  · dsimp only
    have h1 : (leaveL a.ms id).length ≤ a.ms.length := List.eraseP_sublist.length_le
    have h2 := h.ln
    omega
end Go.Proofs.YtmdeajdaeihniaaGreat.X
/-
  Chapter 25: what holds of a room after any call; what is told of it: no program in sight, no condition.
-/
namespace Go.Proofs.YtmdeajdaeihniaaGreat.X
open Go Go.RowKit
set_option linter.unusedVariables false
set_option linter.unusedSimpArgs false
theorem dup_no {id : Int} {l : List Int} (h : dupI id l = false) : l.Nodup ∧ ∀ c, c ∈ l → c ≠ id := by
  rw [dupI_def, List.any_eq_false] at h
  have h1 : ∀ (j : Nat) (hj : j < l.length), l[j] ≠ id ∧ l[j] ∉ l.take j := fun j hj => by
    have := h j (List.mem_range.2 hj)
    rw [Bool.not_eq_true, Bool.or_eq_false_iff, List.getD_eq_getElem?_getD, List.getElem?_eq_getElem hj] at this
    exact ⟨of_decide_eq_false this.1, of_decide_eq_false this.2⟩
  refine ⟨List.pairwise_iff_getElem.2 fun i j hi hj hij e => (h1 j hj).2 ?_, fun c hc => ?_⟩
  · rw [← e]
    exact List.mem_take_iff_getElem.2 ⟨i, by omega, rfl⟩
  · obtain ⟨j, hj, rfl⟩ := List.mem_iff_getElem.1 hc
    exact (h1 j hj).1
theorem setW_ids (ws : List Wa) (w : Wa) : (setW ws w).map Wa.id = ws.map Wa.id := by
  unfold setW
  rw [List.map_map]
  refine List.map_congr_left fun u _ => ?_
  show (if u.id = w.id then w else u).id = u.id
  split
  · rename_i h; exact h.symm
  · rfl
theorem Inv.sub {M : Int} {a : Ra} {i : Nat} (h : Inv M a i) (id : Int) (ct : Bool) (cs : List Int) : Inv M (sbA a id ct cs) (i + 1) := by
  unfold sbA
  by_cases he : sbE a id cs = 0
  case neg => rw [if_neg he]; exact h.up
  rw [if_pos he]
  unfold sbE at he
  split at he
  case isFalse => cases he
  rename_i hall
  split at he
  case isTrue => cases he
  rename_i hd
  obtain ⟨hnd, hne⟩ := dup_no (by simpa using hd)
  refine ⟨h.mo, (setW_ids a.ws _).trans h.id, h.nd, h.rg, h.fm, h.fn, h.fi.up, ?_, h.ln⟩
  intro w hw
  obtain ⟨u, hu, rfl⟩ := List.mem_map.1 hw
  by_cases hid : u.id = id
  · have : (if u.id = (Wa.mk id ct cs).id then Wa.mk id ct cs else u) = Wa.mk id ct cs := if_pos hid
    rw [this]
    exact ⟨hnd, fun c hc => ⟨getId_mem'.1 (List.all_eq_true.1 hall c (List.mem_cons_of_mem _ hc)), hne c hc⟩⟩
  · have : (if u.id = (Wa.mk id ct cs).id then Wa.mk id ct cs else u) = u := if_neg hid
    rw [this]
    exact h.cm u hu
theorem Inv.req {M : Int} {a : Ra} {i : Nat} (h : Inv M a i) (id now : Int) (hn : 0 ≤ now) : Inv M (rqA a id now) (i + 1) := by
  unfold rqA
  split
  · exact h.up
  · by_cases he : reqE a.fl id = 0
    · have hm : id ∈ a.ms.map Mb.id := by
        unfold reqE at he
        split at he
        · rename_i hm; exact (h.fm id).1 hm
        · cases he
      refine h.fl ?_ ?_
      · unfold reqF; rw [if_pos he]; split <;> rfl
      · unfold reqF
        rw [if_pos he]
        split
        · exact ⟨h.fi.hd, fun z hz => by
            rcases List.mem_append.1 hz with h1 | h1
            · exact h.fi.wt z h1
            · rw [List.mem_singleton.1 h1]; exact hm, h.fi.fr, h.fi.he, by have := h.fi.gs; show a.fl.gs.length ≤ _; omega⟩
        · exact h.fi.grant hm hn
    · have : reqF a.fl id now = a.fl := by unfold reqF; rw [if_neg he]
      exact h.fl (by rw [this]) (by rw [this]; exact h.fi.up)
theorem Inv.done {M : Int} {a : Ra} {i : Nat} (h : Inv M a i) (k : Int) (c : Ac) (now : Int) (hn : 0 ≤ now) : Inv M (doA k a c now) (i + 1) := by
  unfold doA
  split
  · exact h.join c.m
  split
  · exact h.leave c.id now hn
  split
  · exact h.req c.id now hn
  split
  · unfold rlA
    split
    · exact h.up
    · unfold relF
      split
      · exact h.fl (endF_ms _ _) (h.fi.fin hn)
      · exact h.up
  split
  · unfold rvA
    split
    · exact h.up
    · unfold revF
      split
      · exact h.fl (endF_ms _ _) (h.fi.fin hn)
      · exact h.up
  split
  · exact h.sub c.id c.fl c.cs
  split
  · unfold hdA
    split
    · exact h.up
    · unfold heardF
      split
      · exact h.fl rfl ⟨h.fi.hd, h.fi.wt, h.fi.fr, hn, by have := h.fi.gs; show a.fl.gs.length ≤ _; omega⟩
      · exact h.up
  · unfold tkA tickF
    split
    · exact h.fl (endF_ms _ _) (h.fi.fin hn)
    · exact h.up
/-! ### what is told -/
theorem fl_sub {k : Int} {a : Ra} {c : Ac} {now : Int} (hk : k = 5 ∨ k = 6) : (doA k a c now).fl = a.fl := by
  unfold doA
  rw [if_neg (by omega), if_neg (by omega), if_neg (by omega), if_neg (by omega), if_neg (by omega), if_pos hk]
  unfold sbA
  split <;> rfl
theorem wfA_ids {ws : List Wa} {z : Int} : (wfA ws z).isSome = true ↔ z ∈ ws.map Wa.id := by
  unfold wfA
  rw [List.find?_isSome, List.mem_map]
  simp
theorem wgA_mem {ws : List Wa} {z : Int} (h : (wfA ws z).isSome = true) : wgA ws z ∈ ws ∧ (wgA ws z).id = z := by
  obtain ⟨w, hw⟩ := Option.isSome_iff_exists.1 h
  unfold wgA
  rw [hw]
  exact ⟨List.mem_of_find?_eq_some hw, by simpa using List.find?_some hw⟩
theorem left_out {a : Ra} {id now : Int} (h : lvE a id = 0) (hnd : (a.ms.map Mb.id).Nodup) : id ∉ (lvA a id now).ms.map Mb.id ∧ ∀ l : List Int, l.filter (viewP (lvA a id now).ws id) = [] := by
  unfold lvA
  rw [if_pos h]
  refine ⟨?_, fun l => ?_⟩
  · dsimp only
    rw [ids_leave]
    exact fun hm => (hnd.mem_erase_iff.1 hm).1 rfl
  · dsimp only
    rw [List.filter_eq_nil_iff]
    intro z _ hv
    unfold viewP at hv
    have hm := ixOf_mem (of_decide_eq_true hv)
    cases hs : (wfA ((a.ws.filter fun w => !decide (w.id = id)).map (cutW id)) z).isSome with
    | false =>
      have hno := Option.not_isSome_iff_eq_none.1 (Bool.eq_false_iff.1 hs)
      unfold wgA at hm
      rw [hno] at hm
      cases hm
    | true =>
      obtain ⟨h1, _⟩ := wgA_mem hs
      obtain ⟨u, _, hu⟩ := List.mem_map.1 h1
      rw [← hu] at hm
      have := (List.mem_filter.1 hm).2
      simp at this
theorem aud_told {M : Int} {a : Ra} {i : Nat} (h : Inv M a i) {z : Int} (hz : z ∈ (a.ms.map Mb.id).filter (audP a.ws a.fl.held a.fl.who)) : (wfA a.ws z).isSome = true ∧ (wgA a.ws z).ct = true ∧ (a.fl.held = true → a.fl.who ≠ z) ∧ z ∈ a.ms.map Mb.id := by
  obtain ⟨h1, h2⟩ := List.mem_filter.1 hz
  unfold audP at h2
  rw [Bool.and_eq_true] at h2
  refine ⟨wfA_ids.2 (h.id ▸ h1), h2.1, fun he hw => ?_, h1⟩
  have := h2.2
  rw [he, decide_eq_true hw] at this
  cases this
theorem id_told {M : Int} {a : Ra} {i : Nat} (h : Inv M a i) {z : Int} (hz : z ∈ a.ms.map Mb.id) : (wfA a.ws z).isSome = true ∧ ((wgA a.ws z).ct = true → ¬ (a.fl.held = true ∧ a.fl.who = z) → z ∈ (a.ms.map Mb.id).filter (audP a.ws a.fl.held a.fl.who)) ∧ (wgA a.ws z).cs.Nodup ∧ ∀ c, c ∈ (wgA a.ws z).cs → c ∈ a.ms.map Mb.id ∧ c ≠ z ∧ z ∈ (a.ms.map Mb.id).filter (viewP a.ws c) := by
  have hs := wfA_ids.2 (h.id ▸ hz)
  obtain ⟨hm, hi⟩ := wgA_mem hs
  have hc := h.cm _ hm
  refine ⟨hs, fun hct hn => List.mem_filter.2 ⟨hz, ?_⟩, hc.1, fun c hcm => ⟨(hc.2 c hcm).1, hi ▸ (hc.2 c hcm).2, List.mem_filter.2 ⟨hz, ?_⟩⟩⟩
  · unfold audP
    rw [hct]
    cases he : a.fl.held with
    | false => rfl
    | true => rw [decide_eq_false (fun e => hn ⟨he, e⟩)]; rfl
  · unfold viewP
    exact decide_eq_true (mem_ixOf hcm)
theorem inv_new : Inv 6 ⟨6, [], newFa 3 12, []⟩ 0 :=
  ⟨⟨rfl, by decide⟩, rfl, List.nodup_nil, (fun z hz => by cases hz), (fun z => by simp [newFa, isM]), List.nodup_nil, ⟨(fun e => by cases e), (fun z hz => by cases hz), (fun _ => rfl), Int.le_refl _, Nat.le_refl _⟩, (fun w hw => by cases hw), by show ((0 : Nat) : Int) ≤ 6; omega⟩
end Go.Proofs.YtmdeajdaeihniaaGreat.X
/-
  Chapter 25: what else holds of a room, whatever is called: numbers of the floor in order, none waits twice; who hears and who sees, told in two ways: no program in sight, no condition.
-/
namespace Go.Proofs.YtmdeajdaeihniaaGreat.X
open Go Go.RowKit
set_option linter.unusedVariables false
set_option linter.unusedSimpArgs false
structure F2 (f : Fa) : Prop where
  so : (f.ms.map (·.1)).Pairwise (· < ·)
  wn : f.wt.Nodup
theorem insM_srt {w : Int} {m : Bool} : ∀ {l : List (Int × Bool)}, (l.map (·.1)).Pairwise (· < ·) → isM l w = false → ((insM w m l).map (·.1)).Pairwise (· < ·)
  | [], _, _ => by simp [insM]
  | x :: r, hn, hw => by
    have hw' : ¬ w ∈ (x :: r).map (·.1) := fun h => by rw [isM_mem.2 h] at hw; cases hw
    rw [List.map_cons, List.mem_cons, not_or] at hw'
    rw [List.map_cons, List.pairwise_cons] at hn
    unfold insM
    split
    · rename_i hlt
      rw [List.map_cons, List.map_cons, List.pairwise_cons]
      refine ⟨fun y hy => ?_, List.pairwise_cons.2 hn⟩
      rcases List.mem_cons.1 hy with rfl | hy
      · exact hlt
      · have := hn.1 y hy; omega
    · rename_i hlt
      rw [List.map_cons, List.pairwise_cons]
      refine ⟨fun y hy => ?_, insM_srt hn.2 ?_⟩
      · obtain ⟨e, he, rfl⟩ := List.mem_map.1 hy
        rcases insM_mem.1 he with rfl | he
        · have := hw'.1; dsimp only; omega
        · exact hn.1 _ (List.mem_map.2 ⟨e, he, rfl⟩)
      · cases hm : isM r w with
        | false => rfl
        | true => exact absurd (isM_mem.1 hm) hw'.2
theorem F2.fin {f : Fa} (h : F2 f) (now : Int) : F2 (endF f now) := by
  unfold endF
  cases hw : f.wt with
  | nil => exact ⟨h.so, List.nodup_nil⟩
  | cons w r =>
    have := h.wn
    rw [hw] at this
    exact ⟨h.so, (List.nodup_cons.1 this).2⟩
theorem F2.out {f : Fa} (h : F2 f) (w : Int) : F2 (outF f w) :=
  ⟨h.so.sublist (List.filter_sublist.map _), h.wn.sublist List.filter_sublist⟩
theorem F2.join {f : Fa} (h : F2 f) (w : Int) (m : Bool) : F2 (joinF f w m) := by
  unfold joinF
  split
  · rename_i he
    refine ⟨insM_srt h.so ?_, h.wn⟩
    unfold joinE at he
    cases hm : isM f.ms w with
    | false => rfl
    | true => rw [hm] at he; simp at he
  · exact h
theorem F2.leave {f : Fa} (h : F2 f) (w now : Int) : F2 (leaveF f w now) := by
  unfold leaveF
  split
  · split
    · exact (h.out w).fin now
    · exact h.out w
  · exact h
theorem F2.req {f : Fa} (h : F2 f) (w now : Int) : F2 (reqF f w now) := by
  unfold reqF
  split
  · rename_i he
    split
    · refine ⟨h.so, ?_⟩
      dsimp only
      refine List.nodup_append.2 ⟨h.wn, by simp, fun x hx y hy e => ?_⟩
      rw [List.mem_singleton] at hy
      subst hy; subst e
      unfold reqE at he
      rw [if_pos (.inr hx : holdsA f x = true ∨ x ∈ f.wt)] at he
      split at he <;> cases he
    · exact ⟨h.so, h.wn⟩
  · exact h
theorem F2.done {a : Ra} (h : F2 a.fl) (k : Int) (c : Ac) (now : Int) : F2 (doA k a c now).fl := by
  unfold doA
  split
  · unfold jnA
    split
    · exact h.join _ _
    · exact h
  split
  · unfold lvA
    split
    · exact h.leave _ _
    · exact h
  split
  · unfold rqA
    split
    · exact h
    · exact h.req _ _
  split
  · unfold rlA
    split
    · exact h
    · dsimp only
      unfold relF
      split
      · exact h.fin _
      · exact h
  split
  · unfold rvA
    split
    · exact h
    · dsimp only
      unfold revF
      split
      · exact h.fin _
      · exact h
  split
  · unfold sbA
    split <;> exact h
  split
  · unfold hdA
    split
    · exact h
    · dsimp only
      unfold heardF
      split
      · exact ⟨h.so, h.wn⟩
      · exact h
  · unfold tkA tickF
    dsimp only
    split
    · exact h.fin _
    · exact h
theorem nodup_le2 : ∀ {l m : List Int}, l.Nodup → (∀ x, x ∈ l → x ∈ m) → l.length ≤ m.length
  | [], m, _, _ => Nat.zero_le _
  | x :: r, m, hn, hs => by
    rw [List.nodup_cons] at hn
    have hx := hs x List.mem_cons_self
    have h1 := nodup_le2 (l := r) (m := m.erase x) hn.2 (fun y hy => (List.mem_erase_of_ne (fun e => hn.1 (by rw [← e]; exact hy))).2 (hs y (List.mem_cons_of_mem _ hy)))
    rw [List.length_erase_of_mem hx] at h1
    have := List.length_pos_of_mem hx
    rw [List.length_cons]; omega
/-- Nobody beyond the members waits, so few do. -/
theorem Inv.wlen {M : Int} {a : Ra} {i : Nat} (h : Inv M a i) (h2 : F2 a.fl) : a.fl.wt.length ≤ 32 := by
  have h1 := nodup_le2 h2.wn h.fi.wt
  rw [List.length_map] at h1
  have := h.ln
  have := h.mo
  omega
theorem Inv.len32 {M : Int} {a : Ra} {i : Nat} (h : Inv M a i) : a.ms.length ≤ 32 ∧ a.fl.ms.length ≤ 32 ∧ a.ws.length ≤ 32 := by
  have h1 := h.len
  have h2 := h.ln
  have h3 := h.mo
  have h4 : a.ws.length = a.ms.length := by have := congrArg List.length h.id; rwa [List.length_map, List.length_map] at this
  omega
theorem wgA_self {ws : List Wa} (hn : (ws.map Wa.id).Nodup) {w : Wa} (hw : w ∈ ws) : wgA ws w.id = w := by
  unfold wgA wfA
  induction ws with
  | nil => cases hw
  | cons x r ih =>
    rw [List.map_cons, List.nodup_cons] at hn
    rcases List.mem_cons.1 hw with rfl | hw
    · rw [List.find?_cons, beq_self_eq_true]; rfl
    · have hne : (x.id == w.id) = false := by
        rw [beq_eq_false_iff_ne]
        exact fun e => hn.1 (e ▸ List.mem_map_of_mem hw)
      rw [List.find?_cons, hne]
      exact ih hn.2 hw
theorem filt_map {ws : List Wa} (p : Int → Bool) (q : Wa → Bool) (h : ∀ w, w ∈ ws → p w.id = q w) : (ws.map Wa.id).filter p = (ws.filter q).map Wa.id := by
  rw [List.filter_map]
  congr 1
  exact List.filter_congr fun w hw => h w hw
/-- The audience, told in two ways. -/
theorem Inv.aud {M : Int} {a : Ra} {i : Nat} (h : Inv M a i) (he : Bool) (who : Int) : (a.ms.map Mb.id).filter (audP a.ws he who) = audL a.ws he who := by
  rw [← h.id]
  unfold audL
  refine filt_map _ _ fun w hw => ?_
  unfold audP
  rw [wgA_self (h.id ▸ h.nd) hw]
theorem ixOf_iff {l : List Int} {y : Int} : decide (0 ≤ ixOf l y) = decide (y ∈ l) := by
  by_cases h : y ∈ l
  · rw [decide_eq_true h, decide_eq_true (mem_ixOf h)]
  · rw [decide_eq_false h]
    exact decide_eq_false fun h2 => h (ixOf_mem h2)
/-- Who sees, told in two ways. -/
theorem Inv.vie {M : Int} {a : Ra} {i : Nat} (h : Inv M a i) (y : Int) : (a.ms.map Mb.id).filter (viewP a.ws y) = vieL a.ws y := by
  rw [← h.id]
  unfold vieL
  refine filt_map _ _ fun w hw => ?_
  unfold viewP
  rw [wgA_self (h.id ▸ h.nd) hw]
  exact ixOf_iff
/-- What somebody watches, told in two ways. -/
theorem wxF_wfA (ws : List Wx) (id : Int) : (wxF ws id).map Wx.a = wfA (ws.map Wx.a) id := by
  unfold wxF wfA
  rw [List.find?_map]
  rfl
theorem wxF_some (ws : List Wx) (id : Int) : (wxF ws id).isSome = (wfA (ws.map Wx.a) id).isSome := by rw [← wxF_wfA, Option.isSome_map]
theorem wxF_g (ws : List Wx) (id : Int) : ((wxF ws id).getD wx0).a.ct = (wgA (ws.map Wx.a) id).ct ∧ ((wxF ws id).getD wx0).a.cs = (wgA (ws.map Wx.a) id).cs := by
  unfold wgA
  rw [← wxF_wfA]
  cases wxF ws id <;> exact ⟨rfl, rfl⟩
theorem inv_newM (m q s : Int) (hm : 0 ≤ m ∧ m ≤ 32) : Inv m ⟨m, [], newFa q s, []⟩ 0 :=
  ⟨⟨rfl, hm.2⟩, rfl, List.nodup_nil, (fun z hz => by cases hz), (fun z => by simp [newFa, isM]), List.nodup_nil, ⟨(fun e => by cases e), (fun z hz => by cases hz), (fun _ => rfl), Int.le_refl _, Nat.le_refl _⟩, (fun w hw => by cases hw), by show ((0 : Nat) : Int) ≤ m; omega⟩
theorem f2_new (q s : Int) : F2 (newFa q s) := ⟨List.Pairwise.nil, List.nodup_nil⟩
end Go.Proofs.YtmdeajdaeihniaaGreat.X
/-
  Chapter 25: a member as the reference has it; a call of the reference's room: walks of my own.
-/
namespace Go.Proofs.YtmdeajdaeihniaaGreat.X
open Go Go.RowKit
set_option linter.unusedVariables false
set_option linter.unusedSimpArgs false
theorem xf_mbR {W : World} {L : List Blk} (m : Mb) : XF Tryz.prog W 29 #[.agg m.enc.toArray] L (fun v L' => v = .agg m.enc.toArray ∧ L' = L) := by
  refine xf_enter (args := [_]) Tryz.func29 rfl Tryz.ntmps29 rfl ?_
  focus
    refine xc_seq ?_
    refine xc_region ?_
    refine xo_ef rfl (ef_box rfl fun r1 => ?_)
    refine xo_ef rfl (ef_alloc fun r2 => ?_)
    refine xo_nil ?_
    refine xq_seq ?_
    refine xc_seq ?_
    refine xc_region ?_
    refine xo_rd (rd_fieldAddr rfl) rfl ?_
    refine xo_rd (rd_load1 rfl (Cl.o1 rfl)) rfl ?_
    refine xo_rd (rd_fieldAddr rfl) rfl ?_
    refine xo_rd (rd_load1 rfl (Cl.o1 rfl)) rfl ?_
    refine xo_rd (rd_fieldAddr rfl) rfl ?_
    refine xo_rd (rd_load1 rfl (Cl.o1 rfl)) rfl ?_
    refine xo_rd (rd_fieldAddr rfl) rfl ?_
    refine xo_rd (rd_load1 rfl (Cl.o1 rfl)) rfl ?_
    refine xo_rd (rd_build rfl rfl rfl) rfl ?_
    refine xo_ef rfl (ef_storeB [] _ rfl rfl (by first | rfl | assumption) rfl rfl rfl ?_)
    refine xo_nil ?_
    refine xq_seq ?_
    refine xc_ret ?_
  exact xq_retB (.inl rfl) Tryz.results29 rfl Kn.o0 rfl (List.sublist_append_right [_, _] _) ⟨rfl, rfl⟩
set_option maxHeartbeats 3200000 in
theorem xf_did {W : World} {L : List Blk} (L0 : List Blk) (hs : ∀ z, z ∈ L0 → z ∈ L) (x : Rr) (hx : x.At W L0) (a : Ac) (now k : Int) (hk : (a.d.tmod 9 + 9) % 9 = k) {M : Int} {i : Nat} (hinv : Inv M x.ra i) (h2 : F2 x.ra.fl) (hi : i ≤ 1000) (hn : now ≤ 18446744073709551615) (hr : Rs W L0 a.p (ints .i64 a.cs)) (hl : a.cs.length ≤ 1000) (hc : a.cs.length ≤ a.c) :
    XF Tryz.prog W 9 #[.agg x.enc.toArray, .agg a.enc.toArray, .int .u64 now] L (fun v L' => ∃ y N, v = .tuple #[.agg (Rr.enc y).toArray, .int .i64 (doE k x.ra a now)] ∧ y.ra = doA k x.ra a now ∧ y.At W (N ++ L0) ∧ L' = N ++ L) := by
  have hpk := fun L' => xf_pickI (W := W) (L := L') a.d 9 (by decide) (by decide)
  rw [hk] at hpk
  have hk9 : 0 ≤ k ∧ k < 9 := by omega
  have hgs : x.f.a.gs.length < 1000000 := by have := hinv.fi.gs; have h3 : x.ra.fl.gs = x.f.a.gs := rfl; rw [h3] at this; omega
  have hwl : x.f.a.wt.length < 1000000 := by have := hinv.wlen h2; have h3 : x.ra.fl.wt = x.f.a.wt := rfl; rw [h3] at this; omega
  have hhe : 0 ≤ x.f.a.heard := hinv.fi.he
  have hln := hinv.len32
  have hl1 : x.ms.length < 1000 := by have := hln.1; have h3 : x.ra.ms = x.ms := rfl; rw [h3] at this; omega
  have hl2 : x.ws.length < 1000 := by have := hln.2.2; have h3 : x.ra.ws = x.ws.map Wx.a := rfl; rw [h3, List.length_map] at this; omega
  have hl3 : x.f.a.ms.length ≤ 32 := hln.2.1
  have hids : (x.ws.map fun u => u.a.id) = x.ms.map Mb.id := by have := hinv.id; have h3 : x.ra.ws = x.ws.map Wx.a := rfl; rw [h3, List.map_map] at this; exact this
  refine xf_enter (args := [_, _, _]) Tryz.func9 rfl Tryz.ntmps9 rfl ?_
  have hcase : k = 0 ∨ k = 1 ∨ k = 2 ∨ k = 3 ∨ k = 4 ∨ k = 5 ∨ k = 6 ∨ k = 7 ∨ k = 8 := by omega
  rcases hcase with rfl | rfl | rfl | rfl | rfl | rfl | rfl | rfl | rfl
  · rw [show doE 0 x.ra a now = jnE x.ra a.m from rfl, show doA 0 x.ra a now = jnA x.ra a.m from rfl]
    have hcl := fun L' (h : ∀ z, z ∈ L → z ∈ L') => xf_r2Join (W := W) (L := L') L0 (fun z hz => h z (hs z hz)) x hx a.m h2.so hl3 hl1 hl2
    focus
      refine xc_seq ?_
      refine xc_region ?_
      refine xo_ef rfl (ef_box rfl fun r3 => ?_)
      refine xo_ef rfl (ef_box rfl fun r4 => ?_)
      refine xo_ef rfl (ef_alloc fun r6 => ?_)
      refine xo_rd (rd_assign rfl) rfl ?_
      refine xo_nil ?_
      refine xq_seq ?_
      refine xc_seq ?_
      refine xc_seq ?_
      refine xc_region ?_
      refine xo_rd (rd_fieldAddr rfl) rfl ?_
      refine xo_rd (rd_load1 rfl (Cl.o1 rfl)) rfl ?_
      refine xo_ef rfl (ef_call rfl (XF.mono (hpk _) ?_))
      rintro v L' ⟨rfl, rfl⟩
      refine xo_nil ?_
      refine xq_seq ?_
      refine xc_block ?_
      refine xc_seq ?_
      refine xc_region ?_
      refine xo_rd (rd_eql rfl rfl) rfl ?_
      refine xo_rd (rd_assign rfl) rfl ?_
      refine xo_nil ?_
      refine xq_seq ?_
      refine xc_condt rfl ?_
      refine xc_seq ?_
      refine xc_drawM [0, 0, 2, 4, 9, 16, 16, 127, 255] [0, 0, 2, 4, 9, 16, 16, 127, 255] [] (by kernel_rfl) (by kernel_rfl) (by kernel_rfl) ?_
      refine xm_take 1 (m' := 2) rfl (by kernel_rfl) Sb.a (rd_fieldAddr rfl) rfl (by kernel_rfl) ?_
      refine xm_two 0 2 (mi := 3) (mk := 6) rfl rfl (by kernel_rfl) rfl rfl (by kernel_rfl) (by kernel_rfl) (ef_rd (rd_loadB rfl Kn.o2 (by rfl)) ⟨Sb.a, ?_⟩) (ef_rd (rd_loadA (vs := a.m.enc) rfl rfl (cl_sub (b := r4) (vs := a.enc) (T := 52) (fr := (0, 0)) 1 (List.mem_cons_of_mem _ List.mem_cons_self) rfl)) ⟨Sb.a, ?_⟩)
      refine xm_one 2 (m' := 7) rfl (by kernel_rfl) rfl (by kernel_rfl) (ef_rd (rd_loadA (vs := a.m.enc) rfl rfl (cl_sub (b := r4) (vs := a.enc) (T := 52) (fr := (0, 0)) 1 (List.mem_cons_of_mem _ List.mem_cons_self) rfl)) ?_)
      refine ⟨Sb.a, ?_⟩
      refine xm_one 3 (m' := 15) rfl (by kernel_rfl) rfl (by kernel_rfl) (ef_call rfl (XF.mono (xf_mbR a.m) ?_))
      rintro v L' ⟨rfl, rfl⟩
      refine ⟨Sb.a, ?_⟩
      refine xm_one 4 (m' := 31) rfl (by kernel_rfl) rfl (by kernel_rfl) (ef_call rfl (XF.mono (hcl _ (by intro z hz; simp [hz])) ?_))
      rintro v L' ⟨y, N, rfl, hya, hyat, rfl⟩
      refine xmx_seg [_, _, _] N _ ?_
      refine ⟨Sb.a, ?_⟩
      refine xm_take 5 (m' := 63) rfl (by kernel_rfl) Sb.a (rd_extract rfl rfl) rfl (by kernel_rfl) ?_
      refine xm_take 6 (m' := 127) rfl (by kernel_rfl) Sb.a (rd_extract rfl rfl) rfl (by kernel_rfl) ?_
      refine xm_one 7 (m' := 255) rfl (by kernel_rfl) rfl (by kernel_rfl) (ef_storeB [] _ rfl rfl (by first | rfl | assumption) rfl rfl rfl ?_)
      refine ⟨Sb.a, ?_⟩
      refine xm_take 8 (m' := 511) rfl (by kernel_rfl) Sb.a (rd_assign rfl) rfl (by kernel_rfl) ?_
      refine xm_done (by kernel_rfl) ?_
      refine xq_seq ?_
      refine xc_ret ?_
      refine xq_block_ret ?_
      refine xq_then_ret ?_
      rotate_left
      refine xm_two 0 3 (mi := 7) (mk := 14) rfl rfl (by kernel_rfl) rfl rfl (by kernel_rfl) (by kernel_rfl) (ef_rd (rd_loadB rfl Kn.o2 (by rfl)) ⟨Sb.a, ?_⟩) (ef_call rfl (XF.mono (xf_mbR a.m) ?_))
      rotate_left
      rintro v L' ⟨rfl, rfl⟩
      refine ⟨Sb.a, ?_⟩
      rotate_right
      refine xm_one 3 (m' := 15) rfl (by kernel_rfl) rfl (by kernel_rfl) (ef_call rfl (XF.mono (xf_mbR a.m) ?_))
      rintro v L' ⟨rfl, rfl⟩
      refine ⟨Sb.a, ?_⟩
      refine xm_one 4 (m' := 31) rfl (by kernel_rfl) rfl (by kernel_rfl) (ef_call rfl (XF.mono (hcl _ (by intro z hz; simp [hz])) ?_))
      rintro v L' ⟨y, N, rfl, hya, hyat, rfl⟩
      refine xmx_seg [_, _, _] N _ ?_
      refine ⟨Sb.a, ?_⟩
      refine xm_take 5 (m' := 63) rfl (by kernel_rfl) Sb.a (rd_extract rfl rfl) rfl (by kernel_rfl) ?_
      refine xm_take 6 (m' := 127) rfl (by kernel_rfl) Sb.a (rd_extract rfl rfl) rfl (by kernel_rfl) ?_
      refine xm_one 7 (m' := 255) rfl (by kernel_rfl) rfl (by kernel_rfl) (ef_storeB [] _ rfl rfl (by first | rfl | assumption) rfl rfl rfl ?_)
      refine ⟨Sb.a, ?_⟩
      refine xm_take 8 (m' := 511) rfl (by kernel_rfl) Sb.a (rd_assign rfl) rfl (by kernel_rfl) ?_
      refine xm_done (by kernel_rfl) ?_
      refine xq_seq ?_
      refine xc_ret ?_
      refine xq_block_ret ?_
      refine xq_then_ret ?_
      rotate_left
      refine xm_one 0 (m' := 15) rfl (by kernel_rfl) rfl (by kernel_rfl) (ef_rd (rd_loadB rfl Kn.o2 (by rfl)) ?_)
      refine ⟨Sb.a, ?_⟩
      refine xm_one 4 (m' := 31) rfl (by kernel_rfl) rfl (by kernel_rfl) (ef_call rfl (XF.mono (hcl _ (by intro z hz; simp [hz])) ?_))
      rintro v L' ⟨y, N, rfl, hya, hyat, rfl⟩
      refine xmx_seg [_, _, _] N _ ?_
      refine ⟨Sb.a, ?_⟩
      refine xm_take 5 (m' := 63) rfl (by kernel_rfl) Sb.a (rd_extract rfl rfl) rfl (by kernel_rfl) ?_
      refine xm_take 6 (m' := 127) rfl (by kernel_rfl) Sb.a (rd_extract rfl rfl) rfl (by kernel_rfl) ?_
      refine xm_one 7 (m' := 255) rfl (by kernel_rfl) rfl (by kernel_rfl) (ef_storeB [] _ rfl rfl (by first | rfl | assumption) rfl rfl rfl ?_)
      refine ⟨Sb.a, ?_⟩
      refine xm_take 8 (m' := 511) rfl (by kernel_rfl) Sb.a (rd_assign rfl) rfl (by kernel_rfl) ?_
      refine xm_done (by kernel_rfl) ?_
      refine xq_seq ?_
      refine xc_ret ?_
      refine xq_block_ret ?_
      refine xq_then_ret ?_
      rotate_left
    all_goals exact xq_retB2 (.inl rfl) Tryz.results9 rfl rfl Kn.o0 rfl (List.sublist_append_right [_, _, _] _) ⟨y, N, rfl, hya, hyat, rfl⟩
  · rw [show doE 1 x.ra a now = lvE x.ra a.id from rfl, show doA 1 x.ra a now = lvA x.ra a.id now from rfl]
    have hcl := fun L' (h : ∀ z, z ∈ L → z ∈ L') => xf_r2Leave (W := W) (L := L') L0 (fun z hz => h z (hs z hz)) x hx a.id now hinv.nd (fun m hm => hinv.rg m.id (List.mem_map_of_mem hm)) hinv.fn h2.wn hgs
    focus
      refine xc_seq ?_
      refine xc_region ?_
      refine xo_ef rfl (ef_box rfl fun r3 => ?_)
      refine xo_ef rfl (ef_box rfl fun r4 => ?_)
      refine xo_ef rfl (ef_alloc fun r6 => ?_)
      refine xo_rd (rd_assign rfl) rfl ?_
      refine xo_nil ?_
      refine xq_seq ?_
      refine xc_seq ?_
      refine xc_seq ?_
      refine xc_region ?_
      refine xo_rd (rd_fieldAddr rfl) rfl ?_
      refine xo_rd (rd_load1 rfl (Cl.o1 rfl)) rfl ?_
      refine xo_ef rfl (ef_call rfl (XF.mono (hpk _) ?_))
      rintro v L' ⟨rfl, rfl⟩
      refine xo_nil ?_
      refine xq_seq ?_
      refine xc_block ?_
      refine xc_seq ?_
      refine xc_region ?_
      refine xo_rd (rd_eql rfl rfl) rfl ?_
      refine xo_rd (rd_assign rfl) rfl ?_
      refine xo_nil ?_
      refine xq_seq ?_
      refine xc_condf rfl ?_
      refine xc_seq ?_
      refine xc_region ?_
      refine xo_rd (rd_eql rfl rfl) rfl ?_
      refine xo_rd (rd_assign rfl) rfl ?_
      refine xo_nil ?_
      refine xq_seq ?_
      refine xc_condt rfl ?_
      refine xc_seq ?_
      refine xc_region ?_
      refine xo_rd (rd_loadB rfl Kn.o2 (by rfl)) rfl ?_
      refine xo_rd (rd_fieldAddr rfl) rfl ?_
      refine xo_rd (rd_load1 rfl (Cl.o1 rfl)) rfl ?_
      refine xo_rd (rd_move rfl) rfl ?_
      refine xo_ef rfl (ef_call rfl (XF.mono (hcl _ (by intro z hz; simp [hz])) ?_))
      rintro v L' ⟨y, N, rfl, hya, hyat, rfl⟩
      refine xo_seg [_, _, _] N _ ?_
      refine xo_rd (rd_extract rfl rfl) rfl ?_
      refine xo_rd (rd_extract rfl rfl) rfl ?_
      refine xo_ef rfl (ef_storeB [] _ rfl rfl (by first | rfl | assumption) rfl rfl rfl ?_)
      refine xo_rd (rd_assign rfl) rfl ?_
      refine xo_nil ?_
      refine xq_seq ?_
      refine xc_ret ?_
      refine xq_block_ret ?_
      refine xq_then_ret ?_
    all_goals exact xq_retB2 (.inl rfl) Tryz.results9 rfl rfl Kn.o0 rfl (List.sublist_append_right [_, _, _] _) ⟨y, N, rfl, hya, hyat, rfl⟩
  · rw [show doE 2 x.ra a now = rqE x.ra a.id from rfl, show doA 2 x.ra a now = rqA x.ra a.id now from rfl]
    have hcl := fun L' (h : ∀ z, z ∈ L → z ∈ L') => xf_r2Request (W := W) (L := L') L0 (fun z hz => h z (hs z hz)) x hx a.id now hgs hwl
    focus
      refine xc_seq ?_
      refine xc_region ?_
      refine xo_ef rfl (ef_box rfl fun r3 => ?_)
      refine xo_ef rfl (ef_box rfl fun r4 => ?_)
      refine xo_ef rfl (ef_alloc fun r6 => ?_)
      refine xo_rd (rd_assign rfl) rfl ?_
      refine xo_nil ?_
      refine xq_seq ?_
      refine xc_seq ?_
      refine xc_seq ?_
      refine xc_region ?_
      refine xo_rd (rd_fieldAddr rfl) rfl ?_
      refine xo_rd (rd_load1 rfl (Cl.o1 rfl)) rfl ?_
      refine xo_ef rfl (ef_call rfl (XF.mono (hpk _) ?_))
      rintro v L' ⟨rfl, rfl⟩
      refine xo_nil ?_
      refine xq_seq ?_
      refine xc_block ?_
      refine xc_seq ?_
      refine xc_region ?_
      refine xo_rd (rd_eql rfl rfl) rfl ?_
      refine xo_rd (rd_assign rfl) rfl ?_
      refine xo_nil ?_
      refine xq_seq ?_
      refine xc_condf rfl ?_
      refine xc_seq ?_
      refine xc_region ?_
      refine xo_rd (rd_eql rfl rfl) rfl ?_
      refine xo_rd (rd_assign rfl) rfl ?_
      refine xo_nil ?_
      refine xq_seq ?_
      refine xc_condf rfl ?_
      refine xc_seq ?_
      refine xc_region ?_
      refine xo_rd (rd_eql rfl rfl) rfl ?_
      refine xo_rd (rd_assign rfl) rfl ?_
      refine xo_nil ?_
      refine xq_seq ?_
      refine xc_condt rfl ?_
      refine xc_seq ?_
      refine xc_region ?_
      refine xo_rd (rd_loadB rfl Kn.o2 (by rfl)) rfl ?_
      refine xo_rd (rd_fieldAddr rfl) rfl ?_
      refine xo_rd (rd_load1 rfl (Cl.o1 rfl)) rfl ?_
      refine xo_rd (rd_move rfl) rfl ?_
      refine xo_ef rfl (ef_call rfl (XF.mono (hcl _ (by intro z hz; simp [hz])) ?_))
      rintro v L' ⟨y, N, rfl, hya, hyat, rfl⟩
      refine xo_seg [_, _, _] N _ ?_
      refine xo_rd (rd_extract rfl rfl) rfl ?_
      refine xo_rd (rd_extract rfl rfl) rfl ?_
      refine xo_ef rfl (ef_storeB [] _ rfl rfl (by first | rfl | assumption) rfl rfl rfl ?_)
      refine xo_rd (rd_assign rfl) rfl ?_
      refine xo_nil ?_
      refine xq_seq ?_
      refine xc_ret ?_
      refine xq_block_ret ?_
      refine xq_then_ret ?_
    all_goals exact xq_retB2 (.inl rfl) Tryz.results9 rfl rfl Kn.o0 rfl (List.sublist_append_right [_, _, _] _) ⟨y, N, rfl, hya, hyat, rfl⟩
  · rw [show doE 3 x.ra a now = rlE x.ra a.id from rfl, show doA 3 x.ra a now = rlA x.ra a.id now from rfl]
    have hcl := fun L' (h : ∀ z, z ∈ L → z ∈ L') => xf_r2Release (W := W) (L := L') L0 (fun z hz => h z (hs z hz)) x hx a.id now hgs
    focus
      refine xc_seq ?_
      refine xc_region ?_
      refine xo_ef rfl (ef_box rfl fun r3 => ?_)
      refine xo_ef rfl (ef_box rfl fun r4 => ?_)
      refine xo_ef rfl (ef_alloc fun r6 => ?_)
      refine xo_rd (rd_assign rfl) rfl ?_
      refine xo_nil ?_
      refine xq_seq ?_
      refine xc_seq ?_
      refine xc_seq ?_
      refine xc_region ?_
      refine xo_rd (rd_fieldAddr rfl) rfl ?_
      refine xo_rd (rd_load1 rfl (Cl.o1 rfl)) rfl ?_
      refine xo_ef rfl (ef_call rfl (XF.mono (hpk _) ?_))
      rintro v L' ⟨rfl, rfl⟩
      refine xo_nil ?_
      refine xq_seq ?_
      refine xc_block ?_
      refine xc_seq ?_
      refine xc_region ?_
      refine xo_rd (rd_eql rfl rfl) rfl ?_
      refine xo_rd (rd_assign rfl) rfl ?_
      refine xo_nil ?_
      refine xq_seq ?_
      refine xc_condf rfl ?_
      refine xc_seq ?_
      refine xc_region ?_
      refine xo_rd (rd_eql rfl rfl) rfl ?_
      refine xo_rd (rd_assign rfl) rfl ?_
      refine xo_nil ?_
      refine xq_seq ?_
      refine xc_condf rfl ?_
      refine xc_seq ?_
      refine xc_region ?_
      refine xo_rd (rd_eql rfl rfl) rfl ?_
      refine xo_rd (rd_assign rfl) rfl ?_
      refine xo_nil ?_
      refine xq_seq ?_
      refine xc_condf rfl ?_
      refine xc_seq ?_
      refine xc_region ?_
      refine xo_rd (rd_eql rfl rfl) rfl ?_
      refine xo_rd (rd_assign rfl) rfl ?_
      refine xo_nil ?_
      refine xq_seq ?_
      refine xc_condt rfl ?_
      refine xc_seq ?_
      refine xc_region ?_
      refine xo_rd (rd_loadB rfl Kn.o2 (by rfl)) rfl ?_
      refine xo_rd (rd_fieldAddr rfl) rfl ?_
      refine xo_rd (rd_load1 rfl (Cl.o1 rfl)) rfl ?_
      refine xo_rd (rd_move rfl) rfl ?_
      refine xo_ef rfl (ef_call rfl (XF.mono (hcl _ (by intro z hz; simp [hz])) ?_))
      rintro v L' ⟨y, N, rfl, hya, hyat, rfl⟩
      refine xo_seg [_, _, _] N _ ?_
      refine xo_rd (rd_extract rfl rfl) rfl ?_
      refine xo_rd (rd_extract rfl rfl) rfl ?_
      refine xo_ef rfl (ef_storeB [] _ rfl rfl (by first | rfl | assumption) rfl rfl rfl ?_)
      refine xo_rd (rd_assign rfl) rfl ?_
      refine xo_nil ?_
      refine xq_seq ?_
      refine xc_ret ?_
      refine xq_block_ret ?_
      refine xq_then_ret ?_
    all_goals exact xq_retB2 (.inl rfl) Tryz.results9 rfl rfl Kn.o0 rfl (List.sublist_append_right [_, _, _] _) ⟨y, N, rfl, hya, hyat, rfl⟩
  · rw [show doE 4 x.ra a now = rvE x.ra a.id a.ot from rfl, show doA 4 x.ra a now = rvA x.ra a.id a.ot now from rfl]
    have hcl := fun L' (h : ∀ z, z ∈ L → z ∈ L') => xf_r2Revoke (W := W) (L := L') L0 (fun z hz => h z (hs z hz)) x hx a.id a.ot now hgs
    focus
      refine xc_seq ?_
      refine xc_region ?_
      refine xo_ef rfl (ef_box rfl fun r3 => ?_)
      refine xo_ef rfl (ef_box rfl fun r4 => ?_)
      refine xo_ef rfl (ef_alloc fun r6 => ?_)
      refine xo_rd (rd_assign rfl) rfl ?_
      refine xo_nil ?_
      refine xq_seq ?_
      refine xc_seq ?_
      refine xc_seq ?_
      refine xc_region ?_
      refine xo_rd (rd_fieldAddr rfl) rfl ?_
      refine xo_rd (rd_load1 rfl (Cl.o1 rfl)) rfl ?_
      refine xo_ef rfl (ef_call rfl (XF.mono (hpk _) ?_))
      rintro v L' ⟨rfl, rfl⟩
      refine xo_nil ?_
      refine xq_seq ?_
      refine xc_block ?_
      refine xc_seq ?_
      refine xc_region ?_
      refine xo_rd (rd_eql rfl rfl) rfl ?_
      refine xo_rd (rd_assign rfl) rfl ?_
      refine xo_nil ?_
      refine xq_seq ?_
      refine xc_condf rfl ?_
      refine xc_seq ?_
      refine xc_region ?_
      refine xo_rd (rd_eql rfl rfl) rfl ?_
      refine xo_rd (rd_assign rfl) rfl ?_
      refine xo_nil ?_
      refine xq_seq ?_
      refine xc_condf rfl ?_
      refine xc_seq ?_
      refine xc_region ?_
      refine xo_rd (rd_eql rfl rfl) rfl ?_
      refine xo_rd (rd_assign rfl) rfl ?_
      refine xo_nil ?_
      refine xq_seq ?_
      refine xc_condf rfl ?_
      refine xc_seq ?_
      refine xc_region ?_
      refine xo_rd (rd_eql rfl rfl) rfl ?_
      refine xo_rd (rd_assign rfl) rfl ?_
      refine xo_nil ?_
      refine xq_seq ?_
      refine xc_condf rfl ?_
      refine xc_seq ?_
      refine xc_region ?_
      refine xo_rd (rd_eql rfl rfl) rfl ?_
      refine xo_rd (rd_assign rfl) rfl ?_
      refine xo_nil ?_
      refine xq_seq ?_
      refine xc_condt rfl ?_
      refine xc_seq ?_
      refine xc_region ?_
      refine xo_rd (rd_loadB rfl Kn.o2 (by rfl)) rfl ?_
      refine xo_rd (rd_fieldAddr rfl) rfl ?_
      refine xo_rd (rd_load1 rfl (Cl.o1 rfl)) rfl ?_
      refine xo_rd (rd_fieldAddr rfl) rfl ?_
      refine xo_rd (rd_load1 rfl (Cl.o1 rfl)) rfl ?_
      refine xo_rd (rd_move rfl) rfl ?_
      refine xo_ef rfl (ef_call rfl (XF.mono (hcl _ (by intro z hz; simp [hz])) ?_))
      rintro v L' ⟨y, N, rfl, hya, hyat, rfl⟩
      refine xo_seg [_, _, _] N _ ?_
      refine xo_rd (rd_extract rfl rfl) rfl ?_
      refine xo_rd (rd_extract rfl rfl) rfl ?_
      refine xo_ef rfl (ef_storeB [] _ rfl rfl (by first | rfl | assumption) rfl rfl rfl ?_)
      refine xo_rd (rd_assign rfl) rfl ?_
      refine xo_nil ?_
      refine xq_seq ?_
      refine xc_ret ?_
      refine xq_block_ret ?_
      refine xq_then_ret ?_
    all_goals exact xq_retB2 (.inl rfl) Tryz.results9 rfl rfl Kn.o0 rfl (List.sublist_append_right [_, _, _] _) ⟨y, N, rfl, hya, hyat, rfl⟩
  · rw [show doE 5 x.ra a now = sbE x.ra a.id a.cs from rfl, show doA 5 x.ra a now = sbA x.ra a.id a.fl a.cs from rfl]
    have hcl := fun L' (h : ∀ z, z ∈ L → z ∈ L') => xf_r2Subscribe (W := W) (L := L') L0 (fun z hz => h z (hs z hz)) x hx a.id a.fl a.p a.cs.length a.c a.cs rfl hr hl hc hids
    focus
      refine xc_seq ?_
      refine xc_region ?_
      refine xo_ef rfl (ef_box rfl fun r3 => ?_)
      refine xo_ef rfl (ef_box rfl fun r4 => ?_)
      refine xo_ef rfl (ef_alloc fun r6 => ?_)
      refine xo_rd (rd_assign rfl) rfl ?_
      refine xo_nil ?_
      refine xq_seq ?_
      refine xc_seq ?_
      refine xc_seq ?_
      refine xc_region ?_
      refine xo_rd (rd_fieldAddr rfl) rfl ?_
      refine xo_rd (rd_load1 rfl (Cl.o1 rfl)) rfl ?_
      refine xo_ef rfl (ef_call rfl (XF.mono (hpk _) ?_))
      rintro v L' ⟨rfl, rfl⟩
      refine xo_nil ?_
      refine xq_seq ?_
      refine xc_block ?_
      refine xc_seq ?_
      refine xc_region ?_
      refine xo_rd (rd_eql rfl rfl) rfl ?_
      refine xo_rd (rd_assign rfl) rfl ?_
      refine xo_nil ?_
      refine xq_seq ?_
      refine xc_condf rfl ?_
      refine xc_seq ?_
      refine xc_region ?_
      refine xo_rd (rd_eql rfl rfl) rfl ?_
      refine xo_rd (rd_assign rfl) rfl ?_
      refine xo_nil ?_
      refine xq_seq ?_
      refine xc_condf rfl ?_
      refine xc_seq ?_
      refine xc_region ?_
      refine xo_rd (rd_eql rfl rfl) rfl ?_
      refine xo_rd (rd_assign rfl) rfl ?_
      refine xo_nil ?_
      refine xq_seq ?_
      refine xc_condf rfl ?_
      refine xc_seq ?_
      refine xc_region ?_
      refine xo_rd (rd_eql rfl rfl) rfl ?_
      refine xo_rd (rd_assign rfl) rfl ?_
      refine xo_nil ?_
      refine xq_seq ?_
      refine xc_condf rfl ?_
      refine xc_seq ?_
      refine xc_region ?_
      refine xo_rd (rd_eql rfl rfl) rfl ?_
      refine xo_rd (rd_assign rfl) rfl ?_
      refine xo_nil ?_
      refine xq_seq ?_
      refine xc_condf rfl ?_
      refine xc_seq ?_
      refine xc_seq ?_
      refine xc_region ?_
      refine xo_rd (rd_eql rfl rfl) rfl ?_
      refine xo_rd (rd_assign rfl) rfl ?_
      refine xo_nil ?_
      refine xq_seq ?_
      refine xc_condt rfl ?_
      refine xc_skip ?_
      refine xq_seq ?_
      refine xc_condt rfl ?_
      refine xc_seq ?_
      refine xc_region ?_
      refine xo_rd (rd_loadB rfl Kn.o2 (by rfl)) rfl ?_
      refine xo_rd (rd_fieldAddr rfl) rfl ?_
      refine xo_rd (rd_load1 rfl (Cl.o1 rfl)) rfl ?_
      refine xo_rd (rd_fieldAddr rfl) rfl ?_
      refine xo_rd (rd_load1 rfl (Cl.o1 rfl)) rfl ?_
      refine xo_rd (rd_fieldAddr rfl) rfl ?_
      refine xo_rd (rd_load1 rfl (Cl.o1 rfl)) rfl ?_
      refine xo_ef rfl (ef_call rfl (XF.mono (hcl _ (by intro z hz; simp [hz])) ?_))
      rintro v L' ⟨y, N, rfl, hya, hyat, rfl⟩
      refine xo_seg [_, _, _] N _ ?_
      refine xo_rd (rd_extract rfl rfl) rfl ?_
      refine xo_rd (rd_extract rfl rfl) rfl ?_
      refine xo_ef rfl (ef_storeB [] _ rfl rfl (by first | rfl | assumption) rfl rfl rfl ?_)
      refine xo_rd (rd_assign rfl) rfl ?_
      refine xo_nil ?_
      refine xq_seq ?_
      refine xc_ret ?_
      refine xq_block_ret ?_
      refine xq_then_ret ?_
    all_goals exact xq_retB2 (.inl rfl) Tryz.results9 rfl rfl Kn.o0 rfl (List.sublist_append_right [_, _, _] _) ⟨y, N, rfl, hya, hyat, rfl⟩
  · rw [show doE 6 x.ra a now = sbE x.ra a.id a.cs from rfl, show doA 6 x.ra a now = sbA x.ra a.id a.fl a.cs from rfl]
    have hcl := fun L' (h : ∀ z, z ∈ L → z ∈ L') => xf_r2Subscribe (W := W) (L := L') L0 (fun z hz => h z (hs z hz)) x hx a.id a.fl a.p a.cs.length a.c a.cs rfl hr hl hc hids
    focus
      refine xc_seq ?_
      refine xc_region ?_
      refine xo_ef rfl (ef_box rfl fun r3 => ?_)
      refine xo_ef rfl (ef_box rfl fun r4 => ?_)
      refine xo_ef rfl (ef_alloc fun r6 => ?_)
      refine xo_rd (rd_assign rfl) rfl ?_
      refine xo_nil ?_
      refine xq_seq ?_
      refine xc_seq ?_
      refine xc_seq ?_
      refine xc_region ?_
      refine xo_rd (rd_fieldAddr rfl) rfl ?_
      refine xo_rd (rd_load1 rfl (Cl.o1 rfl)) rfl ?_
      refine xo_ef rfl (ef_call rfl (XF.mono (hpk _) ?_))
      rintro v L' ⟨rfl, rfl⟩
      refine xo_nil ?_
      refine xq_seq ?_
      refine xc_block ?_
      refine xc_seq ?_
      refine xc_region ?_
      refine xo_rd (rd_eql rfl rfl) rfl ?_
      refine xo_rd (rd_assign rfl) rfl ?_
      refine xo_nil ?_
      refine xq_seq ?_
      refine xc_condf rfl ?_
      refine xc_seq ?_
      refine xc_region ?_
      refine xo_rd (rd_eql rfl rfl) rfl ?_
      refine xo_rd (rd_assign rfl) rfl ?_
      refine xo_nil ?_
      refine xq_seq ?_
      refine xc_condf rfl ?_
      refine xc_seq ?_
      refine xc_region ?_
      refine xo_rd (rd_eql rfl rfl) rfl ?_
      refine xo_rd (rd_assign rfl) rfl ?_
      refine xo_nil ?_
      refine xq_seq ?_
      refine xc_condf rfl ?_
      refine xc_seq ?_
      refine xc_region ?_
      refine xo_rd (rd_eql rfl rfl) rfl ?_
      refine xo_rd (rd_assign rfl) rfl ?_
      refine xo_nil ?_
      refine xq_seq ?_
      refine xc_condf rfl ?_
      refine xc_seq ?_
      refine xc_region ?_
      refine xo_rd (rd_eql rfl rfl) rfl ?_
      refine xo_rd (rd_assign rfl) rfl ?_
      refine xo_nil ?_
      refine xq_seq ?_
      refine xc_condf rfl ?_
      refine xc_seq ?_
      refine xc_seq ?_
      refine xc_region ?_
      refine xo_rd (rd_eql rfl rfl) rfl ?_
      refine xo_rd (rd_assign rfl) rfl ?_
      refine xo_nil ?_
      refine xq_seq ?_
      refine xc_condf rfl ?_
      refine xc_region ?_
      refine xo_rd (rd_eql rfl rfl) rfl ?_
      refine xo_rd (rd_assign rfl) rfl ?_
      refine xo_nil ?_
      refine xq_seq ?_
      refine xc_condt rfl ?_
      refine xc_seq ?_
      refine xc_region ?_
      refine xo_rd (rd_loadB rfl Kn.o2 (by rfl)) rfl ?_
      refine xo_rd (rd_fieldAddr rfl) rfl ?_
      refine xo_rd (rd_load1 rfl (Cl.o1 rfl)) rfl ?_
      refine xo_rd (rd_fieldAddr rfl) rfl ?_
      refine xo_rd (rd_load1 rfl (Cl.o1 rfl)) rfl ?_
      refine xo_rd (rd_fieldAddr rfl) rfl ?_
      refine xo_rd (rd_load1 rfl (Cl.o1 rfl)) rfl ?_
      refine xo_ef rfl (ef_call rfl (XF.mono (hcl _ (by intro z hz; simp [hz])) ?_))
      rintro v L' ⟨y, N, rfl, hya, hyat, rfl⟩
      refine xo_seg [_, _, _] N _ ?_
      refine xo_rd (rd_extract rfl rfl) rfl ?_
      refine xo_rd (rd_extract rfl rfl) rfl ?_
      refine xo_ef rfl (ef_storeB [] _ rfl rfl (by first | rfl | assumption) rfl rfl rfl ?_)
      refine xo_rd (rd_assign rfl) rfl ?_
      refine xo_nil ?_
      refine xq_seq ?_
      refine xc_ret ?_
      refine xq_block_ret ?_
      refine xq_then_ret ?_
    all_goals exact xq_retB2 (.inl rfl) Tryz.results9 rfl rfl Kn.o0 rfl (List.sublist_append_right [_, _, _] _) ⟨y, N, rfl, hya, hyat, rfl⟩
  · rw [show doE 7 x.ra a now = ansE (hdB x.ra a.id) from rfl, show doA 7 x.ra a now = hdA x.ra a.id now a.fl from rfl]
    cases hb : farI a.id with
    | true =>
      have hE : hdB x.ra a.id = false := by unfold hdB; rw [hb]; rfl
      have hJ : hdA x.ra a.id now a.fl = x.ra := by unfold hdA; rw [if_pos hb]
      rw [hE, hJ]
      have hfr : a.id < 0 ∨ 2147483647 < a.id := by unfold farI at hb; simpa using hb
      focus
        refine xc_seq ?_
        refine xc_region ?_
        refine xo_ef rfl (ef_box rfl fun r3 => ?_)
        refine xo_ef rfl (ef_box rfl fun r4 => ?_)
        refine xo_ef rfl (ef_alloc fun r6 => ?_)
        refine xo_rd (rd_assign rfl) rfl ?_
        refine xo_nil ?_
        refine xq_seq ?_
        refine xc_seq ?_
        refine xc_seq ?_
        refine xc_region ?_
        refine xo_rd (rd_fieldAddr rfl) rfl ?_
        refine xo_rd (rd_load1 rfl (Cl.o1 rfl)) rfl ?_
        refine xo_ef rfl (ef_call rfl (XF.mono (hpk _) ?_))
        rintro v L' ⟨rfl, rfl⟩
        refine xo_nil ?_
        refine xq_seq ?_
        refine xc_block ?_
        refine xc_seq ?_
        refine xc_region ?_
        refine xo_rd (rd_eql rfl rfl) rfl ?_
        refine xo_rd (rd_assign rfl) rfl ?_
        refine xo_nil ?_
        refine xq_seq ?_
        refine xc_condf rfl ?_
        refine xc_seq ?_
        refine xc_region ?_
        refine xo_rd (rd_eql rfl rfl) rfl ?_
        refine xo_rd (rd_assign rfl) rfl ?_
        refine xo_nil ?_
        refine xq_seq ?_
        refine xc_condf rfl ?_
        refine xc_seq ?_
        refine xc_region ?_
        refine xo_rd (rd_eql rfl rfl) rfl ?_
        refine xo_rd (rd_assign rfl) rfl ?_
        refine xo_nil ?_
        refine xq_seq ?_
        refine xc_condf rfl ?_
        refine xc_seq ?_
        refine xc_region ?_
        refine xo_rd (rd_eql rfl rfl) rfl ?_
        refine xo_rd (rd_assign rfl) rfl ?_
        refine xo_nil ?_
        refine xq_seq ?_
        refine xc_condf rfl ?_
        refine xc_seq ?_
        refine xc_region ?_
        refine xo_rd (rd_eql rfl rfl) rfl ?_
        refine xo_rd (rd_assign rfl) rfl ?_
        refine xo_nil ?_
        refine xq_seq ?_
        refine xc_condf rfl ?_
        refine xc_seq ?_
        refine xc_seq ?_
        refine xc_region ?_
        refine xo_rd (rd_eql rfl rfl) rfl ?_
        refine xo_rd (rd_assign rfl) rfl ?_
        refine xo_nil ?_
        refine xq_seq ?_
        refine xc_condf rfl ?_
        refine xc_region ?_
        refine xo_rd (rd_eql rfl rfl) rfl ?_
        refine xo_rd (rd_assign rfl) rfl ?_
        refine xo_nil ?_
        refine xq_seq ?_
        refine xc_condf rfl ?_
        refine xc_seq ?_
        refine xc_region ?_
        refine xo_rd (rd_eql rfl rfl) rfl ?_
        refine xo_rd (rd_assign rfl) rfl ?_
        refine xo_nil ?_
        refine xq_seq ?_
        refine xc_condt rfl ?_
        refine xc_seq ?_
        refine xc_seq ?_
        refine xc_region ?_
        refine xo_rd (rd_fieldAddr rfl) rfl ?_
        refine xo_rd (rd_load1 rfl (Cl.o1 rfl)) rfl ?_
        refine xo_rd (rd_lss rfl rfl) rfl ?_
        refine xo_rd (rd_move rfl) rfl ?_
        refine xo_dec 80 rfl (fun h1 => ?_) (fun h1 => ?_)
        refine xo_gskip rfl rfl rfl rfl ?_
        refine xo_gskip rfl rfl rfl rfl ?_
        refine xo_gskip rfl rfl rfl rfl ?_
        refine xo_rd (rd_pickt rfl rfl) rfl ?_
        refine xo_nil ?_
        refine xq_seq ?_
        refine xc_condt rfl ?_
        refine xc_seq ?_
        refine xc_region ?_
        refine xo_rd (rd_loadB rfl Kn.o2 (by rfl)) rfl ?_
        refine xo_ef rfl (ef_storeB [] _ rfl rfl (by first | rfl | assumption) rfl rfl rfl ?_)
        refine xo_rd (rd_assign rfl) rfl ?_
        refine xo_nil ?_
        refine xq_seq ?_
        refine xc_ret ?_
        refine xq_then_ret ?_
        refine xq_block_ret ?_
        refine xq_then_ret ?_
        rotate_left
        refine xo_grd rfl rfl (rd_fieldAddr rfl) rfl ?_
        refine xo_grd rfl rfl (rd_load1 rfl (Cl.o1 rfl)) rfl ?_
        refine xo_grd rfl rfl (rd_gtr rfl rfl) rfl ?_
        refine xo_rd (rd_pickf rfl rfl) rfl ?_
        refine xo_nil ?_
        refine xq_seq ?_
        refine xc_dec rfl (fun h2 => ?_) (fun h2 => (by exfalso; omega))
        refine xc_seq ?_
        refine xc_region ?_
        refine xo_rd (rd_loadB rfl Kn.o2 (by rfl)) rfl ?_
        refine xo_ef rfl (ef_storeB [] _ rfl rfl (by first | rfl | assumption) rfl rfl rfl ?_)
        refine xo_rd (rd_assign rfl) rfl ?_
        refine xo_nil ?_
        refine xq_seq ?_
        refine xc_ret ?_
        refine xq_then_ret ?_
        refine xq_block_ret ?_
        refine xq_then_ret ?_
        rotate_left
      all_goals exact xq_retB2 (.inl rfl) Tryz.results9 rfl rfl Kn.o0 rfl (List.sublist_append_right [_, _, _] _) ⟨x, [], rfl, rfl, hx, rfl⟩
    | false =>
      have hE : hdB x.ra a.id = holdsA x.f.a a.id := by unfold hdB; rw [hb]; rfl
      have hJ : hdA x.ra a.id now a.fl = { x.ra with fl := heardF x.f.a a.id now a.fl } := by unfold hdA; rw [if_neg (by rw [hb]; decide)]; rfl
      rw [hE, hJ]
      have hfr := farI_not hb
      have hcl := fun L' (h : ∀ z, z ∈ L → z ∈ L') => xf_rHeard (W := W) (L := L') L0 (fun z hz => h z (hs z hz)) x.f hx.f a.id now a.fl
      focus
        refine xc_seq ?_
        refine xc_region ?_
        refine xo_ef rfl (ef_box rfl fun r3 => ?_)
        refine xo_ef rfl (ef_box rfl fun r4 => ?_)
        refine xo_ef rfl (ef_alloc fun r6 => ?_)
        refine xo_rd (rd_assign rfl) rfl ?_
        refine xo_nil ?_
        refine xq_seq ?_
        refine xc_seq ?_
        refine xc_seq ?_
        refine xc_region ?_
        refine xo_rd (rd_fieldAddr rfl) rfl ?_
        refine xo_rd (rd_load1 rfl (Cl.o1 rfl)) rfl ?_
        refine xo_ef rfl (ef_call rfl (XF.mono (hpk _) ?_))
        rintro v L' ⟨rfl, rfl⟩
        refine xo_nil ?_
        refine xq_seq ?_
        refine xc_block ?_
        refine xc_seq ?_
        refine xc_region ?_
        refine xo_rd (rd_eql rfl rfl) rfl ?_
        refine xo_rd (rd_assign rfl) rfl ?_
        refine xo_nil ?_
        refine xq_seq ?_
        refine xc_condf rfl ?_
        refine xc_seq ?_
        refine xc_region ?_
        refine xo_rd (rd_eql rfl rfl) rfl ?_
        refine xo_rd (rd_assign rfl) rfl ?_
        refine xo_nil ?_
        refine xq_seq ?_
        refine xc_condf rfl ?_
        refine xc_seq ?_
        refine xc_region ?_
        refine xo_rd (rd_eql rfl rfl) rfl ?_
        refine xo_rd (rd_assign rfl) rfl ?_
        refine xo_nil ?_
        refine xq_seq ?_
        refine xc_condf rfl ?_
        refine xc_seq ?_
        refine xc_region ?_
        refine xo_rd (rd_eql rfl rfl) rfl ?_
        refine xo_rd (rd_assign rfl) rfl ?_
        refine xo_nil ?_
        refine xq_seq ?_
        refine xc_condf rfl ?_
        refine xc_seq ?_
        refine xc_region ?_
        refine xo_rd (rd_eql rfl rfl) rfl ?_
        refine xo_rd (rd_assign rfl) rfl ?_
        refine xo_nil ?_
        refine xq_seq ?_
        refine xc_condf rfl ?_
        refine xc_seq ?_
        refine xc_seq ?_
        refine xc_region ?_
        refine xo_rd (rd_eql rfl rfl) rfl ?_
        refine xo_rd (rd_assign rfl) rfl ?_
        refine xo_nil ?_
        refine xq_seq ?_
        refine xc_condf rfl ?_
        refine xc_region ?_
        refine xo_rd (rd_eql rfl rfl) rfl ?_
        refine xo_rd (rd_assign rfl) rfl ?_
        refine xo_nil ?_
        refine xq_seq ?_
        refine xc_condf rfl ?_
        refine xc_seq ?_
        refine xc_region ?_
        refine xo_rd (rd_eql rfl rfl) rfl ?_
        refine xo_rd (rd_assign rfl) rfl ?_
        refine xo_nil ?_
        refine xq_seq ?_
        refine xc_condt rfl ?_
        refine xc_seq ?_
        refine xc_seq ?_
        refine xc_region ?_
        refine xo_rd (rd_fieldAddr rfl) rfl ?_
        refine xo_rd (rd_load1 rfl (Cl.o1 rfl)) rfl ?_
        refine xo_rd (rd_lss rfl rfl) rfl ?_
        refine xo_rd (rd_move rfl) rfl ?_
        refine xo_dec 80 rfl (fun h1 => (by exfalso; omega)) (fun h1 => ?_)
        refine xo_grd rfl rfl (rd_fieldAddr rfl) rfl ?_
        refine xo_grd rfl rfl (rd_load1 rfl (Cl.o1 rfl)) rfl ?_
        refine xo_grd rfl rfl (rd_gtr rfl rfl) rfl ?_
        refine xo_rd (rd_pickf rfl rfl) rfl ?_
        refine xo_nil ?_
        refine xq_seq ?_
        refine xc_dec rfl (fun h2 => (by exfalso; omega)) (fun h2 => ?_)
        refine xc_skip ?_
        refine xq_seq ?_
        refine xc_seq ?_
        refine xc_region ?_
        refine xo_rd (rd_fieldAddr rfl) rfl ?_
        refine xo_rd (rd_loadA (vs := x.f.enc) rfl rfl (Rr.fl_cl (by exact List.mem_cons_of_mem _ (List.mem_cons_of_mem _ List.mem_cons_self)))) rfl ?_
        refine xo_rd (rd_fieldAddr rfl) rfl ?_
        refine xo_rd (rd_load1 rfl (Cl.o1 rfl)) rfl ?_
        refine xo_rd (rd_convn rfl (by omega) (by omega)) rfl ?_
        refine xo_rd (rd_move rfl) rfl ?_
        refine xo_rd (rd_fieldAddr rfl) rfl ?_
        refine xo_rd (rd_load1 rfl (Cl.o1 rfl)) rfl ?_
        refine xo_ef rfl (ef_call rfl (XF.mono (hcl _ (by intro z hz; simp [hz])) ?_))
        rintro v L' ⟨y, N, rfl, hya, hyat, rfl⟩
        refine xo_seg [_, _, _] N _ ?_
        refine xo_rd (rd_move rfl) rfl ?_
        refine xo_rd (rd_extract rfl rfl) rfl ?_
        refine xo_rd (rd_extract rfl rfl) rfl ?_
        refine xo_ef rfl (ef_alloc fun r8 => ?_)
        refine xo_ef rfl (ef_storeB [] _ rfl rfl (by first | rfl | assumption) rfl rfl rfl ?_)
        refine xo_rd (rd_assign rfl) rfl ?_
        refine xo_nil ?_
        refine xq_seq ?_
        refine xc_seq ?_
        refine xc_region ?_
        refine xo_rd (rd_loadB rfl Kn.o0 (by rfl)) rfl ?_
        refine xo_rd (rd_fieldAddr rfl) rfl ?_
        refine xo_ef rfl (ef_storeW [_, _, _] _ 2 (vs := y.enc) (cs := x.enc) (ws := Rr.enc { x with f := y }) rfl rfl rfl rfl rfl (by rw [Rr.len, Rf.len]; decide) (by kernel_rfl) ?_)
        refine xo_nil ?_
        refine xq_seq ?_
      focus
        refine xc_seq ?_
        refine xc_drawM [0, 0, 2, 5, 15] [0, 0, 2, 5, 15] [] (by kernel_rfl) (by kernel_rfl) (by kernel_rfl) ?_
        refine xm_take 1 (m' := 2) rfl (by kernel_rfl) Sb.a (rd_move rfl) rfl (by kernel_rfl) ?_
        refine xm_two 0 2 (mi := 3) (mk := 6) rfl rfl (by kernel_rfl) rfl rfl (by kernel_rfl) (by kernel_rfl) (ef_rd (rd_loadB rfl Kn.o3 (by rfl)) ⟨Sb.a, ?_⟩) (ef_call rfl (XF.mono (xf_answer _) ?_))
        rotate_left
        rintro v L' ⟨rfl, rfl⟩
        refine ⟨Sb.a, ?_⟩
        rotate_right
        refine xm_one 2 (m' := 7) rfl (by kernel_rfl) rfl (by kernel_rfl) (ef_call rfl (XF.mono (xf_answer _) ?_))
        rintro v L' ⟨rfl, rfl⟩
        refine ⟨Sb.a, ?_⟩
        refine xm_one 3 (m' := 15) rfl (by kernel_rfl) rfl (by kernel_rfl) (ef_storeB [_] _ rfl rfl (by first | rfl | assumption) rfl rfl rfl ?_)
        refine ⟨Sb.a, ?_⟩
        refine xm_take 4 (m' := 31) rfl (by kernel_rfl) Sb.a (rd_assign rfl) rfl (by kernel_rfl) ?_
        refine xm_done (by kernel_rfl) ?_
        refine xq_seq ?_
        refine xc_ret ?_
        refine xq_block_ret ?_
        refine xq_then_ret ?_
        rotate_left
        refine xm_one 0 (m' := 7) rfl (by kernel_rfl) rfl (by kernel_rfl) (ef_rd (rd_loadB rfl Kn.o3 (by rfl)) ?_)
        refine ⟨Sb.a, ?_⟩
        refine xm_one 3 (m' := 15) rfl (by kernel_rfl) rfl (by kernel_rfl) (ef_storeB [_] _ rfl rfl (by first | rfl | assumption) rfl rfl rfl ?_)
        refine ⟨Sb.a, ?_⟩
        refine xm_take 4 (m' := 31) rfl (by kernel_rfl) Sb.a (rd_assign rfl) rfl (by kernel_rfl) ?_
        refine xm_done (by kernel_rfl) ?_
        refine xq_seq ?_
        refine xc_ret ?_
        refine xq_block_ret ?_
        refine xq_then_ret ?_
        rotate_left
      all_goals exact xq_retB2 (.inl rfl) Tryz.results9 rfl rfl Kn.o1 rfl (List.sublist_append_right [_, _, _, _] _) ⟨{ x with f := y }, N, rfl, by simp only [Rr.ra, hya], hx.setF (by intro z hz; simp [hz]) hyat, rfl⟩
  · rw [show doE 8 x.ra a now = ansE (tickA x.f.a now) from rfl, show doA 8 x.ra a now = { x.ra with fl := tickF x.f.a now } from rfl]
    have hcl := fun L' (h : ∀ z, z ∈ L → z ∈ L') => xf_rTick (W := W) (L := L') L0 (fun z hz => h z (hs z hz)) x.f hx.f now hgs hhe hn
    focus
      refine xc_seq ?_
      refine xc_region ?_
      refine xo_ef rfl (ef_box rfl fun r3 => ?_)
      refine xo_ef rfl (ef_box rfl fun r4 => ?_)
      refine xo_ef rfl (ef_alloc fun r6 => ?_)
      refine xo_rd (rd_assign rfl) rfl ?_
      refine xo_nil ?_
      refine xq_seq ?_
      refine xc_seq ?_
      refine xc_seq ?_
      refine xc_region ?_
      refine xo_rd (rd_fieldAddr rfl) rfl ?_
      refine xo_rd (rd_load1 rfl (Cl.o1 rfl)) rfl ?_
      refine xo_ef rfl (ef_call rfl (XF.mono (hpk _) ?_))
      rintro v L' ⟨rfl, rfl⟩
      refine xo_nil ?_
      refine xq_seq ?_
      refine xc_block ?_
      refine xc_seq ?_
      refine xc_region ?_
      refine xo_rd (rd_eql rfl rfl) rfl ?_
      refine xo_rd (rd_assign rfl) rfl ?_
      refine xo_nil ?_
      refine xq_seq ?_
      refine xc_condf rfl ?_
      refine xc_seq ?_
      refine xc_region ?_
      refine xo_rd (rd_eql rfl rfl) rfl ?_
      refine xo_rd (rd_assign rfl) rfl ?_
      refine xo_nil ?_
      refine xq_seq ?_
      refine xc_condf rfl ?_
      refine xc_seq ?_
      refine xc_region ?_
      refine xo_rd (rd_eql rfl rfl) rfl ?_
      refine xo_rd (rd_assign rfl) rfl ?_
      refine xo_nil ?_
      refine xq_seq ?_
      refine xc_condf rfl ?_
      refine xc_seq ?_
      refine xc_region ?_
      refine xo_rd (rd_eql rfl rfl) rfl ?_
      refine xo_rd (rd_assign rfl) rfl ?_
      refine xo_nil ?_
      refine xq_seq ?_
      refine xc_condf rfl ?_
      refine xc_seq ?_
      refine xc_region ?_
      refine xo_rd (rd_eql rfl rfl) rfl ?_
      refine xo_rd (rd_assign rfl) rfl ?_
      refine xo_nil ?_
      refine xq_seq ?_
      refine xc_condf rfl ?_
      refine xc_seq ?_
      refine xc_seq ?_
      refine xc_region ?_
      refine xo_rd (rd_eql rfl rfl) rfl ?_
      refine xo_rd (rd_assign rfl) rfl ?_
      refine xo_nil ?_
      refine xq_seq ?_
      refine xc_condf rfl ?_
      refine xc_region ?_
      refine xo_rd (rd_eql rfl rfl) rfl ?_
      refine xo_rd (rd_assign rfl) rfl ?_
      refine xo_nil ?_
      refine xq_seq ?_
      refine xc_condf rfl ?_
      refine xc_seq ?_
      refine xc_region ?_
      refine xo_rd (rd_eql rfl rfl) rfl ?_
      refine xo_rd (rd_assign rfl) rfl ?_
      refine xo_nil ?_
      refine xq_seq ?_
      refine xc_condf rfl ?_
      refine xc_skip ?_
      refine xq_block ?_
      refine xq_seq ?_
      refine xc_seq ?_
      refine xc_region ?_
      refine xo_rd (rd_fieldAddr rfl) rfl ?_
      refine xo_rd (rd_loadA (vs := x.f.enc) rfl rfl (Rr.fl_cl (by exact List.mem_cons_of_mem _ (List.mem_cons_of_mem _ List.mem_cons_self)))) rfl ?_
      refine xo_rd (rd_move rfl) rfl ?_
      refine xo_ef rfl (ef_call rfl (XF.mono (hcl _ (by intro z hz; simp [hz])) ?_))
      rintro v L' ⟨y, N, rfl, hya, hyat, rfl⟩
      refine xo_seg [_, _, _] N _ ?_
      refine xo_rd (rd_move rfl) rfl ?_
      refine xo_rd (rd_extract rfl rfl) rfl ?_
      refine xo_rd (rd_extract rfl rfl) rfl ?_
      refine xo_ef rfl (ef_alloc fun r10 => ?_)
      refine xo_ef rfl (ef_storeB [] _ rfl rfl (by first | rfl | assumption) rfl rfl rfl ?_)
      refine xo_rd (rd_assign rfl) rfl ?_
      refine xo_nil ?_
      refine xq_seq ?_
      refine xc_seq ?_
      refine xc_region ?_
      refine xo_rd (rd_loadB rfl Kn.o0 (by rfl)) rfl ?_
      refine xo_rd (rd_fieldAddr rfl) rfl ?_
      refine xo_ef rfl (ef_storeW [_, _, _] _ 2 (vs := y.enc) (cs := x.enc) (ws := Rr.enc { x with f := y }) rfl rfl rfl rfl rfl (by rw [Rr.len, Rf.len]; decide) (by kernel_rfl) ?_)
      refine xo_nil ?_
      refine xq_seq ?_
    focus
      refine xc_seq ?_
      refine xc_drawM [0, 0, 2, 5, 15] [0, 0, 2, 5, 15] [] (by kernel_rfl) (by kernel_rfl) (by kernel_rfl) ?_
      refine xm_take 1 (m' := 2) rfl (by kernel_rfl) Sb.a (rd_move rfl) rfl (by kernel_rfl) ?_
      refine xm_two 0 2 (mi := 3) (mk := 6) rfl rfl (by kernel_rfl) rfl rfl (by kernel_rfl) (by kernel_rfl) (ef_rd (rd_loadB rfl Kn.o3 (by rfl)) ⟨Sb.a, ?_⟩) (ef_call rfl (XF.mono (xf_answer _) ?_))
      rotate_left
      rintro v L' ⟨rfl, rfl⟩
      refine ⟨Sb.a, ?_⟩
      rotate_right
      refine xm_one 2 (m' := 7) rfl (by kernel_rfl) rfl (by kernel_rfl) (ef_call rfl (XF.mono (xf_answer _) ?_))
      rintro v L' ⟨rfl, rfl⟩
      refine ⟨Sb.a, ?_⟩
      refine xm_one 3 (m' := 15) rfl (by kernel_rfl) rfl (by kernel_rfl) (ef_storeB [_] _ rfl rfl (by first | rfl | assumption) rfl rfl rfl ?_)
      refine ⟨Sb.a, ?_⟩
      refine xm_take 4 (m' := 31) rfl (by kernel_rfl) Sb.a (rd_assign rfl) rfl (by kernel_rfl) ?_
      refine xm_done (by kernel_rfl) ?_
      refine xq_seq ?_
      refine xc_ret ?_
      rotate_left
      refine xm_one 0 (m' := 7) rfl (by kernel_rfl) rfl (by kernel_rfl) (ef_rd (rd_loadB rfl Kn.o3 (by rfl)) ?_)
      refine ⟨Sb.a, ?_⟩
      refine xm_one 3 (m' := 15) rfl (by kernel_rfl) rfl (by kernel_rfl) (ef_storeB [_] _ rfl rfl (by first | rfl | assumption) rfl rfl rfl ?_)
      refine ⟨Sb.a, ?_⟩
      refine xm_take 4 (m' := 31) rfl (by kernel_rfl) Sb.a (rd_assign rfl) rfl (by kernel_rfl) ?_
      refine xm_done (by kernel_rfl) ?_
      refine xq_seq ?_
      refine xc_ret ?_
      rotate_left
    all_goals exact xq_retB2 (.inl rfl) Tryz.results9 rfl rfl Kn.o1 rfl (List.sublist_append_right [_, _, _, _] _) ⟨{ x with f := y }, N, rfl, by simp only [Rr.ra, hya], hx.setF (by intro z hz; simp [hz]) hyat, rfl⟩
end Go.Proofs.YtmdeajdaeihniaaGreat.X
/-
  Chapter 25: is a room as the reference's is: a walk of my own.
-/
namespace Go.Proofs.YtmdeajdaeihniaaGreat.X
open Go Go.RowKit
set_option linter.unusedVariables false
set_option linter.unusedSimpArgs false
theorem of_at {W : World} {L : List Blk} {y : Rr} (hy : y.At W L) (id : Int) : Rs W L ((wxF y.ws id).getD wx0).p (ints .i64 ((wxF y.ws id).getD wx0).a.cs) ∧ ((wxF y.ws id).getD wx0).a.cs.length ≤ 1000 := by
  cases h : wxF y.ws id with
  | none => exact ⟨Rs.nil, Nat.zero_le _⟩
  | some u =>
    have hu := List.mem_of_find?_eq_some h
    exact ⟨hy.w u hu, hy.cl u hu⟩
theorem any_map (m : Option Mb) (s : Int) : (m.any fun m => decide (m.content = s)) = decide (m.map Mb.content = some s) := by
  cases m with
  | none => rfl
  | some m => by_cases h : m.content = s <;> simp [h]
theorem Inv.wtg {M : Int} {a : Ra} {i : Nat} (h : Inv M a i) : ∀ w, w ∈ a.fl.wt → 0 ≤ w ∧ w ≤ 4294967295 := fun w hw => by have := h.rg w (h.fi.wt w hw); omega
theorem Inv.whg {M : Int} {a : Ra} {i : Nat} (h : Inv M a i) : 0 ≤ a.fl.who ∧ a.fl.who ≤ 4294967295 := by
  cases he : a.fl.held with
  | true => have := h.rg _ (h.fi.hd he); omega
  | false => rw [h.fi.fr he]; decide
theorem eqsM88 (a b : Mb) : EqS Tryz.prog 88 a.enc b.enc (decide (a = b)) := .of msMb (by kernel_rfl) (by kernel_rfl) (by kernel_rfl) (by kernel_rfl) (flatMb a b) (Mb.enc_inj a b)
theorem XF.aheadQ {W : World} {f : FuncId} {args : Array Value} {r : Nat} {x : Rm} {n : Nat} {ns : List Int} {S : List Blk} (K G : List Blk) (hS : K ++ x.blks r G = S) (h : XF Tryz.prog W f args (x.blks r (K ++ G)) (fun v L' => ∃ p k l, v = .slice p n k ∧ SlQ 1 3 (.slice p n k) n (ints .i64 ns) l ∧ L' = l ++ x.blks r (K ++ G))) :
    XF Tryz.prog W f args S (fun v L' => ∃ p k l, v = .slice p n k ∧ SlQ 1 3 (.slice p n k) n (ints .i64 ns) l ∧ L' = l ++ S) := by
  subst hS
  exact (h.perm (x.front r K G)).mapK fun v L' ⟨p, k, l, hv, hO, hL⟩ => ⟨_, hL ▸ ((x.front r K G).symm.append_left l), p, k, l, hv, hO, rfl⟩
theorem perm_two (a b : Blk) (l A : List Blk) : (a :: b :: (l ++ A)).Perm (l ++ ([a, b] ++ A)) := (by classical exact List.perm_iff_count.2 fun a => by simp only [List.append_eq, List.count_append, List.count_cons, List.count_nil, List.cons_append, List.nil_append, List.flatMap_append, List.flatMap_cons, List.flatMap_nil, List.append_nil]; omega)
theorem perm_is {a b c d : Blk} (p q l A : List Blk) : (a :: b :: c :: d :: ((p ++ (q ++ l)) ++ A)).Perm (l ++ ((a :: b :: c :: d :: (p ++ q)) ++ A)) := (by classical exact List.perm_iff_count.2 fun a => by simp only [List.append_eq, List.count_append, List.count_cons, List.count_nil, List.cons_append, List.nil_append, List.flatMap_append, List.flatMap_cons, List.flatMap_nil, List.append_nil]; omega)
set_option maxHeartbeats 6400000 in
theorem xf_is {W : World} {L : List Blk} (r : Nat) (x : Rm) (hx : x.Ok) (y : Rr) (hy : y.At W L) (hra : y.ra = x.ra) {M : Int} {i0 : Nat} (hinv : Inv M x.ra i0) (h2 : F2 x.ra.fl) (id s : Int) :
    XF Tryz.prog W 11 #[.pointer (some ⟨r, 0, none⟩), .agg y.enc.toArray, .int .i64 id, .int .u32 s] (x.blks r L) (fun v L' => v = .bool true ∧ L' = x.blks r L) := by
  have hfa : x.fm.a = y.f.a := (congrArg Ra.fl hra).symm
  have hms : x.ro.ms = y.ms := (congrArg Ra.ms hra).symm
  have hws : x.was = y.ws.map Wx.a := (congrArg Ra.ws hra).symm
  have hwtu := hinv.wtg
  have hwhu := hinv.whg
  have hwl := hinv.wlen h2
  have hln := hinv.len32
  rw [show x.ra.fl = x.fm.a from rfl, hfa] at hwtu hwhu hwl
  rw [show x.ra.fl = x.fm.a from rfl, show x.ra.ms = x.ro.ms from rfl, show x.ra.ws = x.was from rfl, hfa, hms, hws, List.length_map] at hln
  have hhol := fun L => xf_RHolder (W := W) (L := L) r x hx
  rw [hfa] at hhol
  obtain ⟨ho1, ho2⟩ := of_at hy id
  obtain ⟨hg1, hg2⟩ := wxF_g y.ws id
  have hg3 := wxF_some y.ws id
  have hof := fun L' (h : ∀ z, z ∈ L → z ∈ L') => xf_rOf (W := W) (L := L') y (hy.mono h) id
  have hwat := fun L => xf_RWatch (W := W) (L := L) r x hx id
  rw [hws] at hwat
  rw [hg3] at hof
  generalize (wxF y.ws id).getD wx0 = u at *
  generalize wgA (y.ws.map Wx.a) id = w at *
  generalize (wfA (y.ws.map Wx.a) id).isSome = bw at *
  obtain ⟨⟨uid, uct, ucs⟩, up, uc⟩ := u
  obtain ⟨wid, wct, wcs⟩ := w
  dsimp only at hg1 hg2 ho1 ho2
  subst hg1 hg2
  dsimp only at hwat
  refine xf_enter (args := [_, _, _, _]) Tryz.func11 rfl Tryz.ntmps11 rfl ?_
  focus
    refine xc_seq ?_
    refine xc_region ?_
    refine xo_ef rfl (ef_box rfl fun r5 => ?_)
    refine xo_rd (rd_assign rfl) rfl ?_
    refine xo_nil ?_
    refine xq_seq ?_
    refine xc_seq ?_
    refine xc_region ?_
    refine xo_rd (rd_move rfl) rfl ?_
    refine xo_ef rfl (ef_call rfl (XF.mono ((hhol ([_] ++ L)).permK (x.front r [_] L)) ?_))
    rintro v L' ⟨rfl, rfl⟩
    refine xo_rd (rd_move rfl) rfl ?_
    refine xo_rd (rd_extract rfl rfl) rfl ?_
    refine xo_rd (rd_extract rfl rfl) rfl ?_
    refine xo_ef rfl (ef_alloc fun r9 => ?_)
    refine xo_ef rfl (ef_storeB [] _ rfl rfl (by first | rfl | assumption) rfl rfl rfl ?_)
    refine xo_rd (rd_assign rfl) rfl ?_
    refine xo_nil ?_
    refine xq_seq ?_
    refine xc_seq ?_
    refine xc_region ?_
    refine xo_rd (rd_move rfl) rfl ?_
    refine xo_rd (rd_move rfl) rfl ?_
    refine xo_ef rfl (ef_call rfl (XF.mono ((hwat ([_, _] ++ L)).perm (x.front r [_, _] L)) ?_))
    rintro v L' ⟨q, k, l, rfl, hO, rfl⟩
    refine xo_rd (rd_move rfl) rfl ?_
    refine xo_rd (rd_extract rfl rfl) rfl ?_
    refine xo_rd (rd_extract rfl rfl) rfl ?_
    refine xo_ef rfl (ef_alloc fun r11 => ?_)
    refine xo_ef rfl (ef_storeB [] _ rfl rfl (by first | rfl | assumption) rfl rfl rfl ?_)
    refine xo_rd (rd_assign rfl) rfl ?_
    refine xo_nil ?_
    refine xq_seq ?_
    refine xc_seq ?_
    refine xc_region ?_
    refine xo_rd (rd_loadA (vs := y.enc) rfl rfl (cl_sub (b := r5) (vs := y.enc) (T := 45) (fr := (0, 0)) 0 (List.mem_cons_of_mem _ (List.mem_append_right _ ((Rm.sub r x _).subset (List.mem_cons_of_mem _ List.mem_cons_self)))) rfl)) rfl ?_
    refine xo_rd (rd_move rfl) rfl ?_
    refine xo_ef rfl (ef_call rfl (XF.mono (hof _ (fun z hz => List.mem_cons_of_mem _ (List.mem_append_right _ ((Rm.sub r x _).subset (List.mem_append_right _ hz))))) ?_))
    rintro v L' ⟨rfl, rfl⟩
    refine xo_rd (rd_move rfl) rfl ?_
    refine xo_rd (rd_extract rfl rfl) rfl ?_
    refine xo_rd (rd_extract rfl rfl) rfl ?_
    refine xo_ef rfl (ef_alloc fun r13 => ?_)
    refine xo_ef rfl (ef_storeB [] _ rfl rfl (by first | rfl | assumption) rfl rfl rfl ?_)
    refine xo_rd (rd_assign rfl) rfl ?_
    refine xo_nil ?_
    refine xq_seq ?_
  refine xc_perm (L' := l ++ x.blks r ([(r13, Obj.cells (xwE uid uct up ucs.length uc).toArray 105 (0, 0)), (r11, Obj.cells (wEnc uct q ucs.length k).toArray 64 (0, 0))] ++ ([(r9, Obj.cells (gEnc (y.f.a.no, y.f.a.who, y.f.a.at')).toArray 101 (0, 0)), (r5, Obj.cells y.enc.toArray 45 (0, 0))] ++ L))) ((perm_two _ _ l _).trans ((x.front r [_, _] _).append_left l)) ?_
  generalize hG : [(r13, Obj.cells (xwE uid uct up ucs.length uc).toArray 105 (0, 0)), (r11, Obj.cells (wEnc uct q ucs.length k).toArray 64 (0, 0))] ++ ([(r9, Obj.cells (gEnc (y.f.a.no, y.f.a.who, y.f.a.at')).toArray 101 (0, 0)), (r5, Obj.cells y.enc.toArray 45 (0, 0))] ++ L) = G
  have hsG : L.Sublist G := hG ▸ List.sublist_append_right [_, _, _, _] L
  have h13 : (r13, Obj.cells (xwE uid uct up ucs.length uc).toArray 105 (0, 0)) ∈ G := hG ▸ List.mem_cons_self
  have h11 : (r11, Obj.cells (wEnc uct q ucs.length k).toArray 64 (0, 0)) ∈ G := hG ▸ List.mem_cons_of_mem _ List.mem_cons_self
  have h9 : (r9, Obj.cells (gEnc (y.f.a.no, y.f.a.who, y.f.a.at')).toArray 101 (0, 0)) ∈ G := hG ▸ List.mem_cons_of_mem _ (List.mem_cons_of_mem _ List.mem_cons_self)
  have h5 : (r5, Obj.cells y.enc.toArray 45 (0, 0)) ∈ G := hG ▸ List.mem_cons_of_mem _ (List.mem_cons_of_mem _ (List.mem_cons_of_mem _ List.mem_cons_self))
  have hLG : (x.blks r L).Sublist (x.blks r G) := hG ▸ x.blks_sub r [_, _, _, _] L
  clear hG
  have c13 : ∀ L', (∀ z, z ∈ x.blks r G → z ∈ L') → ∀ (i : Nat) (v : Value), (xwE uid uct up ucs.length uc)[i]? = some v → Cl W L' r13 i v := fun L' h i v hv => Cl.own (h _ ((Rm.sub r x G).subset h13)) (by simpa using hv)
  have c11 : ∀ L', (∀ z, z ∈ x.blks r G → z ∈ L') → ∀ (i : Nat) (v : Value), (wEnc uct q ucs.length k)[i]? = some v → Cl W L' r11 i v := fun L' h i v hv => Cl.own (h _ ((Rm.sub r x G).subset h11)) (by simpa using hv)
  have c9 : ∀ L', (∀ z, z ∈ x.blks r G → z ∈ L') → ∀ (i : Nat) (v : Value), (gEnc (y.f.a.no, y.f.a.who, y.f.a.at'))[i]? = some v → Cl W L' r9 i v := fun L' h i v hv => Cl.own (h _ ((Rm.sub r x G).subset h9)) (by simpa using hv)
  have c5 : ∀ L', (∀ z, z ∈ x.blks r G → z ∈ L') → ∀ (i : Nat) (v : Value), y.enc[i]? = some v → Cl W L' r5 i v := fun L' h i v hv => Cl.own (h _ ((Rm.sub r x G).subset h5)) (by simpa using hv)
  have hyG : ∀ L', (∀ z, z ∈ x.blks r G → z ∈ L') → y.At W L' := fun L' h => hy.mono fun z hz => h z ((Rm.sub r x G).subset (hsG.subset hz))
  have hpen := fun L => xf_RPending (W := W) (L := L) r x hx
  rw [hfa] at hpen
  focus
    refine xc_seq ?_
    refine xc_seq ?_
    refine xc_drawM [0, 0, 2, 4, 9, 16, 32, 96, 32, 288, 544, 1056, 2208, 4128, 8224, 16384, 49152, 16384, 147456, 278528, 540672, 1130496, 2113536, 4210688, 8388608, 25165824, 8388608, 75497472, 142606336, 310378496, 545259520, 1107296256, 2147483648, 2147483648, 15032385536, 19327352832, 36507222016, 68719476736, 206158430208, 68719476736, 618475290624, 1443109011456, 2267742732288, 4466765987840, 8796093022208, 26388279066624, 8796093022208, 79164837199872, 184717953466368, 290271069732864, 571746046443520] [0, 0, 2, 4, 9, 16, 32, 96, 32, 288, 544, 1056, 2208, 4128, 8224, 16384, 49152, 16384, 147456, 278528, 540672, 1130496, 2113536, 4210688, 8388608, 25165824, 8388608, 75497472, 142606336, 310378496, 545259520, 1107296256, 2147483648, 2147483648, 15032385536, 19327352832, 36507222016, 68719476736, 206158430208, 68719476736, 618475290624, 1443109011456, 2267742732288, 4466765987840, 8796093022208, 26388279066624, 8796093022208, 79164837199872, 184717953466368, 290271069732864, 571746046443520] (l ++ x.blks r G) (by kernel_rfl) (by kernel_rfl) (by kernel_rfl) ?_
    refine xm_take 0 (m' := 1) rfl (by kernel_rfl) Sb.a (rd_move rfl) rfl (by kernel_rfl) ?_
    refine xm_take 1 (m' := 3) rfl (by kernel_rfl) Sb.a (rd_fieldAddr rfl) rfl (by kernel_rfl) ?_
    refine xm_take 2 (m' := 7) rfl (by kernel_rfl) Sb.a (rd_fieldAddr rfl) rfl (by kernel_rfl) ?_
    refine xm_take 3 (m' := 15) rfl (by kernel_rfl) Sb.a (rd_load1 rfl (c5 _ (by intro z hz; simp [hz]) 5 _ rfl)) rfl (by kernel_rfl) ?_
    refine xm_take 4 (m' := 31) rfl (by kernel_rfl) Sb.a (rd_cast (v' := .bool false) (rd_neb rfl rfl) (by rw [beq_self_eq_true]; rfl)) rfl (by kernel_rfl) ?_
    refine xm_take 5 (m' := 63) rfl (by kernel_rfl) Sb.a (rd_move rfl) rfl (by kernel_rfl) ?_
    refine xm_gtake 6 (m' := 127) rfl (by kernel_rfl) Sb.a rfl rfl (rd_fieldAddr rfl) rfl (by kernel_rfl) ?_
    refine xm_gtake 7 (m' := 255) rfl (by kernel_rfl) Sb.a rfl rfl (rd_load1 rfl (c9 _ (by intro z hz; simp [hz]) 0 (.int .u64 y.f.a.no) rfl)) rfl (by kernel_rfl) ?_
    refine xm_gtake 8 (m' := 511) rfl (by kernel_rfl) Sb.a rfl rfl (rd_fieldAddr rfl) rfl (by kernel_rfl) ?_
    refine xm_gtake 9 (m' := 1023) rfl (by kernel_rfl) Sb.a rfl rfl (rd_fieldAddr rfl) rfl (by kernel_rfl) ?_
    refine xm_gtake 10 (m' := 2047) rfl (by kernel_rfl) Sb.a rfl rfl (rd_fieldAddr rfl) rfl (by kernel_rfl) ?_
    refine xm_gtake 11 (m' := 4095) rfl (by kernel_rfl) Sb.a rfl rfl (rd_load1 rfl (c5 _ (by intro z hz; simp [hz]) 6 _ rfl)) rfl (by kernel_rfl) ?_
    refine xm_gtake 12 (m' := 8191) rfl (by kernel_rfl) Sb.a rfl rfl (rd_neq rfl rfl) rfl (by kernel_rfl) ?_
    refine xm_take 13 (m' := 16383) rfl (by kernel_rfl) Sb.a (rd_pickf rfl rfl) rfl (by kernel_rfl) ?_
    refine xm_take 14 (m' := 32767) rfl (by kernel_rfl) Sb.a (rd_move rfl) rfl (by kernel_rfl) ?_
    refine xm_ndec 61 rfl (fun h => absurd rfl h) (fun _ => ?_)
    refine xm_gtake 15 (m' := 65535) rfl (by kernel_rfl) Sb.a rfl rfl (rd_fieldAddr rfl) rfl (by kernel_rfl) ?_
    refine xm_gtake 16 (m' := 131071) rfl (by kernel_rfl) Sb.a rfl rfl (rd_load1 rfl (c9 _ (by intro z hz; simp [hz]) 1 (.int .u32 y.f.a.who) rfl)) rfl (by kernel_rfl) ?_
    refine xm_gtake 17 (m' := 262143) rfl (by kernel_rfl) Sb.a rfl rfl (rd_fieldAddr rfl) rfl (by kernel_rfl) ?_
    refine xm_gtake 18 (m' := 524287) rfl (by kernel_rfl) Sb.a rfl rfl (rd_fieldAddr rfl) rfl (by kernel_rfl) ?_
    refine xm_gtake 19 (m' := 1048575) rfl (by kernel_rfl) Sb.a rfl rfl (rd_fieldAddr rfl) rfl (by kernel_rfl) ?_
    refine xm_gtake 20 (m' := 2097151) rfl (by kernel_rfl) Sb.a rfl rfl (rd_load1 rfl (c5 _ (by intro z hz; simp [hz]) 7 _ rfl)) rfl (by kernel_rfl) ?_
    refine xm_gtake 21 (m' := 4194303) rfl (by kernel_rfl) Sb.a rfl rfl (rd_neq rfl rfl) rfl (by kernel_rfl) ?_
    refine xm_take 22 (m' := 8388607) rfl (by kernel_rfl) Sb.a (rd_pickf rfl rfl) rfl (by kernel_rfl) ?_
    refine xm_take 23 (m' := 16777215) rfl (by kernel_rfl) Sb.a (rd_move rfl) rfl (by kernel_rfl) ?_
    refine xm_ndec 70 rfl (fun h => absurd rfl h) (fun _ => ?_)
    refine xm_gtake 24 (m' := 33554431) rfl (by kernel_rfl) Sb.a rfl rfl (rd_move rfl) rfl (by kernel_rfl) ?_
    refine xm_gtake 26 (m' := 100663295) rfl (by kernel_rfl) Sb.a rfl rfl (rd_fieldAddr rfl) rfl (by kernel_rfl) ?_
    refine xm_gtake 27 (m' := 234881023) rfl (by kernel_rfl) Sb.a rfl rfl (rd_fieldAddr rfl) rfl (by kernel_rfl) ?_
    refine xm_gtake 28 (m' := 503316479) rfl (by kernel_rfl) Sb.a rfl rfl (rd_load1 rfl (c5 _ (by intro z hz; simp [hz]) 10 _ rfl)) rfl (by kernel_rfl) ?_
    refine xm_gone 25 (m' := 536870911) rfl (by kernel_rfl) rfl rfl rfl (by kernel_rfl) (ef_call rfl (XF.mono ((hpen (l ++ G)).permK (x.front r l G)) ?_))
    rintro v L' ⟨rfl, rfl⟩
    refine ⟨Sb.a, ?_⟩
    refine xm_gtake 29 (m' := 1073741823) rfl (by kernel_rfl) Sb.a rfl rfl (rd_cast (v' := .bool false) (rd_neb rfl rfl) (by rw [beq_self_eq_true]; rfl)) rfl (by kernel_rfl) ?_
    refine xm_take 30 (m' := 2147483647) rfl (by kernel_rfl) Sb.a (rd_pickf rfl rfl) rfl (by kernel_rfl) ?_
    refine xm_take 31 (m' := 4294967295) rfl (by kernel_rfl) Sb.a (rd_move rfl) rfl (by kernel_rfl) ?_
    refine xm_gtake 32 (m' := 8589934591) rfl (by kernel_rfl) Sb.a rfl rfl (rd_move rfl) rfl (by kernel_rfl) ?_
    refine xm_gtake 33 (m' := 17179869183) rfl (by kernel_rfl) Sb.a rfl rfl (rd_move rfl) rfl (by kernel_rfl) ?_
    refine xm_gtake 34 (m' := 34359738367) rfl (by kernel_rfl) Sb.a rfl rfl (rd_cast (v' := .bool false) (rd_neb rfl rfl) (by rw [beq_self_eq_true]; rfl)) rfl (by kernel_rfl) ?_
    refine xm_take 35 (m' := 68719476735) rfl (by kernel_rfl) Sb.a (rd_pickf rfl rfl) rfl (by kernel_rfl) ?_
    refine xm_take 36 (m' := 137438953471) rfl (by kernel_rfl) Sb.a (rd_move rfl) rfl (by kernel_rfl) ?_
    refine xm_gtake 37 (m' := 274877906943) rfl (by kernel_rfl) Sb.a rfl rfl (rd_fieldAddr rfl) rfl (by kernel_rfl) ?_
    refine xm_gtake 38 (m' := 549755813887) rfl (by kernel_rfl) Sb.a rfl rfl (rd_load1 rfl (c11 _ (by intro z hz; simp [hz]) 0 _ rfl)) rfl (by kernel_rfl) ?_
    refine xm_gtake 39 (m' := 1099511627775) rfl (by kernel_rfl) Sb.a rfl rfl (rd_fieldAddr rfl) rfl (by kernel_rfl) ?_
    refine xm_gtake 40 (m' := 2199023255551) rfl (by kernel_rfl) Sb.a rfl rfl (rd_load1 rfl (c13 _ (by intro z hz; simp [hz]) 1 _ rfl)) rfl (by kernel_rfl) ?_
    refine xm_gtake 41 (m' := 4398046511103) rfl (by kernel_rfl) Sb.a rfl rfl (rd_cast (v' := .bool false) (rd_neb rfl rfl) (by rw [beq_self_eq_true]; rfl)) rfl (by kernel_rfl) ?_
    refine xm_take 42 (m' := 8796093022207) rfl (by kernel_rfl) Sb.a (rd_pickf rfl rfl) rfl (by kernel_rfl) ?_
    refine xm_take 43 (m' := 17592186044415) rfl (by kernel_rfl) Sb.a (rd_move rfl) rfl (by kernel_rfl) ?_
    refine xm_gtake 44 (m' := 35184372088831) rfl (by kernel_rfl) Sb.a rfl rfl (rd_fieldAddr rfl) rfl (by kernel_rfl) ?_
    refine xm_gtake 45 (m' := 70368744177663) rfl (by kernel_rfl) Sb.a rfl rfl (rd_load1 rfl (c11 _ (by intro z hz; simp [hz]) 1 _ rfl)) rfl (by kernel_rfl) ?_
    refine xm_gtake 46 (m' := 140737488355327) rfl (by kernel_rfl) Sb.a rfl rfl (rd_fieldAddr rfl) rfl (by kernel_rfl) ?_
    refine xm_gtake 47 (m' := 281474976710655) rfl (by kernel_rfl) Sb.a rfl rfl (rd_load1 rfl (c13 _ (by intro z hz; simp [hz]) 2 _ rfl)) rfl (by kernel_rfl) ?_
    refine xm_gone 48 (m' := 562949953421311) rfl (by kernel_rfl) rfl rfl rfl (by kernel_rfl) (ef_call rfl (XF.mono (xf_sameT q up _ _ _ _ ucs ucs rfl rfl (hO.rs (by intro z hz; simp [hz])) (ho1.mono fun z hz => List.mem_append_right _ ((Rm.sub r x G).subset (hsG.subset hz))) (by omega) rfl) ?_))
    rintro v L' ⟨rfl, rfl⟩
    refine ⟨Sb.a, ?_⟩
    refine xm_gtake 49 (m' := 1125899906842623) rfl (by kernel_rfl) Sb.a rfl rfl (rd_not rfl) rfl (by kernel_rfl) ?_
    refine xm_take 50 (m' := 2251799813685247) rfl (by kernel_rfl) Sb.a (rd_pickf rfl rfl) rfl (by kernel_rfl) ?_
    refine xm_done (by kernel_rfl) ?_
    refine xq_seq ?_
    refine xc_condf rfl ?_
    refine xc_skip ?_
    refine xq_seq ?_
    refine xc_seq ?_
    refine xc_region ?_
    refine xo_rd (rd_assign rfl) rfl ?_
    refine xo_rd (rd_assign rfl) rfl ?_
    refine xo_nil ?_
    refine xq_seq ?_
    refine xc_seq ?_
    refine xc_seq ?_
    refine xc_region ?_
    refine xo_rd (rd_assign rfl) rfl ?_
    refine xo_nil ?_
    refine xq_seq ?_
    refine xc_block ?_
  have hwid : (y.ws.map fun u => u.a.id) = y.ms.map Mb.id := by have := hinv.id; rw [show x.ra.ws = x.was from rfl, show x.ra.ms = x.ro.ms from rfl, hws, hms, List.map_map] at this; exact this
  refine xc_loopI (ι := NrS) (fun s => s.i ≤ y.ws.length ∧ SlQ 1 3 (.slice s.p s.i s.c) s.i (ints .i64 ((y.ws.take s.i).map fun u => u.a.id)) s.l) (fun s => y.ws.length - s.i) (fun s => s.l ++ (l ++ x.blks r G)) (fun z => [(0, .pointer (some ⟨r, 0, none⟩)), (2, .int .i64 id), (3, .int .u32 s), (5, .pointer (some ⟨r5, 0, none⟩)), (11, .pointer (some ⟨r11, 0, none⟩)), (15, .slice z.p z.i z.c), (16, .slice none 0 0), (17, .int .i64 z.i)]) ⟨0, none, 0, []⟩ ⟨Nat.zero_le _, SlQ.nil⟩ rfl (by repeat (first | exact keep_nil | refine keep_cons rfl ?_)) ?_
  rintro ⟨i, p2, c2, l2⟩ ⟨hi, hsl⟩
  dsimp only at hi hsl ⊢
  by_cases hin : i < y.ws.length
  · have hyx : Rs W (l2 ++ (l ++ x.blks r G)) y.xp (y.ws.flatMap Wx.enc) := (hyG _ (by intro z hz; simp [hz])).xs
    obtain ⟨b, o, hp, hc⟩ := hyx.rows Wx.len (by decide) (by omega)
    have hci := hc i hin
    obtain ⟨e, hee⟩ : ∃ e, y.ws[i] = e := ⟨_, rfl⟩
    rw [hee] at hci
    have hci2 : ∀ j v, e.enc[j]? = some v → Cl W (l2 ++ (l ++ x.blks r G)) b (o + (i : Int).toNat * 3 + j) v := fun j v hj => hci j v hj
    have htk : (y.ws.take (i + 1)).map (fun u => u.a.id) = (y.ws.take i).map (fun u => u.a.id) ++ [e.a.id] := by rw [List.take_add_one, List.getElem?_eq_getElem hin, hee, List.map_append]; rfl
    focus
      refine xc_seq ?_
      refine xc_seq ?_
      refine xc_region ?_
      refine xo_rd (rd_move rfl) rfl ?_
      refine xo_rd (rd_fieldAddr rfl) rfl ?_
      refine xo_rd (rd_cast (v' := .slice (some ⟨b, o, none⟩) y.ws.length y.xc) (rd_load1 rfl (c5 _ (by intro z hz; simp [hz]) 13 (.slice y.xp y.ws.length y.xc) rfl)) (by rw [← hp])) rfl ?_
      refine xo_rd (rd_len rfl) rfl ?_
      refine xo_rd (rd_lss rfl rfl) rfl ?_
      refine xo_nil ?_
      refine xq_seq ?_
      refine xc_dec rfl (fun hz1 => ?_) (fun hz1 => (by exfalso; omega))
      refine xc_skip ?_
      refine xq_seq ?_
      refine xc_seq ?_
      refine xc_block ?_
      refine xc_region ?_
      refine xo_rd (rd_move rfl) rfl ?_
      refine xo_rd (rd_fieldAddr rfl) rfl ?_
      refine xo_rd (rd_cast (v' := .slice (some ⟨b, o, none⟩) y.ws.length y.xc) (rd_load1 rfl (c5 _ (by intro z hz; simp [hz]) 13 (.slice y.xp y.ws.length y.xc) rfl)) (by rw [← hp])) rfl ?_
      refine xo_rd (rd_move rfl) rfl ?_
      refine xo_rd (rd_indexAddr rfl rfl (by omega) (by omega)) rfl ?_
      refine xo_rd (rd_fieldAddr rfl) rfl ?_
      refine xo_rd (rd_load1 rfl (hci2 0 _ rfl)) rfl ?_
      refine xo_ef rfl (ef_buildL (T := 50) (len := 1) (s := 1) (cells := (ints .i64 [e.a.id]).toArray) rfl (by decide) (by decide) (by kernel_rfl) fun r39 => ?_)
      refine xo_ef rfl (ef_appendQS [_] (l ++ x.blks r G) l2 (news := ints .i64 [e.a.id]) rfl rfl hsl rfl rs_cons rfl rfl (by decide) (by omega) (by omega) fun q3 kk3 lb3 hO3 hk3 => ?_)
      refine xo_rd (rd_assign rfl) rfl ?_
      refine xo_nil ?_
      refine xq_block ?_
      refine xq_seq ?_
      refine xc_region ?_
      refine xo_rd (rd_move rfl) rfl ?_
      refine xo_rd (rd_addn rfl rfl (by omega) (by omega)) rfl ?_
      refine xo_rd (rd_assign rfl) rfl ?_
      refine xo_nil ?_
    exact xq_sub (List.sublist_cons_self _ _) (xq_roundI (⟨i + 1, q3, kk3, lb3⟩ : NrS) ⟨by dsimp only; omega, by dsimp only; rw [htk, ints_app]; exact hO3⟩ (by dsimp only; omega) rfl (by repeat (first | exact keep_nil | refine keep_cons rfl ?_)))
  have hiw : i = y.ws.length := by omega
  subst hiw
  rw [List.take_length, hwid] at hsl
  focus
    refine xc_seq ?_
    refine xc_seq ?_
    refine xc_region ?_
    refine xo_rd (rd_move rfl) rfl ?_
    refine xo_rd (rd_fieldAddr rfl) rfl ?_
    refine xo_rd (rd_load1 rfl (c5 _ (by intro z hz; simp [hz]) 13 _ rfl)) rfl ?_
    refine xo_rd (rd_len rfl) rfl ?_
    refine xo_rd (rd_lss rfl rfl) rfl ?_
    refine xo_nil ?_
    refine xq_seq ?_
    refine xc_dec rfl (fun h1 => (by exfalso; omega)) (fun h1 => ?_)
    refine xc_exit ?_
    refine xq_then_exit ?_
    refine xq_then_exit ?_
    refine xq_block_hit ?_
    refine xq_seq ?_
  refine xc_perm (L' := (l2 ++ l) ++ x.blks r G) (List.append_assoc l2 l _ ▸ List.Perm.refl _) ?_
  focus
    refine xc_seq ?_
    refine xc_seq ?_
    refine xc_region ?_
    refine xo_rd (rd_assign rfl) rfl ?_
    refine xo_nil ?_
    refine xq_seq ?_
    refine xc_block ?_
  refine xc_loopI (ι := NrS) (fun s => s.i ≤ y.f.a.wt.length ∧ SlQ 1 3 (.slice s.p s.i s.c) s.i (ints .i64 (y.f.a.wt.take s.i)) s.l) (fun s => y.f.a.wt.length - s.i) (fun s => s.l ++ ((l2 ++ l) ++ x.blks r G)) (fun z => [(0, .pointer (some ⟨r, 0, none⟩)), (2, .int .i64 id), (3, .int .u32 s), (5, .pointer (some ⟨r5, 0, none⟩)), (11, .pointer (some ⟨r11, 0, none⟩)), (15, .slice p2 y.ws.length c2), (16, .slice z.p z.i z.c), (18, .int .i64 z.i)]) ⟨0, none, 0, []⟩ ⟨Nat.zero_le _, SlQ.nil⟩ rfl (by repeat (first | exact keep_nil | refine keep_cons rfl ?_)) ?_
  clear hin hi
  rintro ⟨i, p3, c3, l3⟩ ⟨hi, hsl3⟩
  dsimp only at hi hsl3 ⊢
  by_cases hin : i < y.f.a.wt.length
  · have hyx : Rs W (l3 ++ ((l2 ++ l) ++ x.blks r G)) y.f.wp (ints .u32 y.f.a.wt) := (hyG _ (by intro z hz; simp [hz])).f.w
    obtain ⟨b, o, hp, hc⟩ := hyx.int (i := i) (by omega)
    have hui := hwtu y.f.a.wt[i] (List.getElem_mem _)
    obtain ⟨e, hee⟩ : ∃ e, y.f.a.wt[i] = e := ⟨_, rfl⟩
    rw [hee] at hc hui
    have htk : y.f.a.wt.take (i + 1) = y.f.a.wt.take i ++ [e] := by rw [List.take_add_one, List.getElem?_eq_getElem hin, hee]; rfl
    focus
      refine xc_seq ?_
      refine xc_seq ?_
      refine xc_region ?_
      refine xo_rd (rd_move rfl) rfl ?_
      refine xo_rd (rd_fieldAddr rfl) rfl ?_
      refine xo_rd (rd_fieldAddr rfl) rfl ?_
      refine xo_rd (rd_cast (v' := .slice (some ⟨b, o, none⟩) y.f.a.wt.length y.f.wc) (rd_load1 rfl (c5 _ (by intro z hz; simp [hz]) 11 (.slice y.f.wp y.f.a.wt.length y.f.wc) rfl)) (by rw [← hp])) rfl ?_
      refine xo_rd (rd_len rfl) rfl ?_
      refine xo_rd (rd_lss rfl rfl) rfl ?_
      refine xo_nil ?_
      refine xq_seq ?_
      refine xc_dec rfl (fun hz1 => ?_) (fun hz1 => (by exfalso; omega))
      refine xc_skip ?_
      refine xq_seq ?_
      refine xc_seq ?_
      refine xc_block ?_
      refine xc_region ?_
      refine xo_rd (rd_move rfl) rfl ?_
      refine xo_rd (rd_fieldAddr rfl) rfl ?_
      refine xo_rd (rd_fieldAddr rfl) rfl ?_
      refine xo_rd (rd_cast (v' := .slice (some ⟨b, o, none⟩) y.f.a.wt.length y.f.wc) (rd_load1 rfl (c5 _ (by intro z hz; simp [hz]) 11 (.slice y.f.wp y.f.a.wt.length y.f.wc) rfl)) (by rw [← hp])) rfl ?_
      refine xo_rd (rd_move rfl) rfl ?_
      refine xo_rd (rd_indexAddr rfl rfl (by omega) (by omega)) rfl ?_
      refine xo_rd (rd_load1 rfl hc) rfl ?_
      refine xo_rd (rd_convn rfl (by omega) (by omega)) rfl ?_
      refine xo_ef rfl (ef_buildL (T := 50) (len := 1) (s := 1) (cells := (ints .i64 [e]).toArray) rfl (by decide) (by decide) (by kernel_rfl) fun r39 => ?_)
      refine xo_ef rfl (ef_appendQS [_] ((l2 ++ l) ++ x.blks r G) l3 (news := ints .i64 [e]) rfl rfl hsl3 rfl rs_cons rfl rfl (by decide) (by omega) (by omega) fun q3 kk3 lb3 hO3 hk3 => ?_)
      refine xo_rd (rd_assign rfl) rfl ?_
      refine xo_nil ?_
      refine xq_block ?_
      refine xq_seq ?_
      refine xc_region ?_
      refine xo_rd (rd_move rfl) rfl ?_
      refine xo_rd (rd_addn rfl rfl (by omega) (by omega)) rfl ?_
      refine xo_rd (rd_assign rfl) rfl ?_
      refine xo_nil ?_
    exact xq_sub (List.sublist_cons_self _ _) (xq_roundI (⟨i + 1, q3, kk3, lb3⟩ : NrS) ⟨by dsimp only; omega, by dsimp only; rw [htk, ints_app]; exact hO3⟩ (by dsimp only; omega) rfl (by repeat (first | exact keep_nil | refine keep_cons rfl ?_)))
  have hiw : i = y.f.a.wt.length := by omega
  subst hiw
  rw [List.take_length] at hsl3
  clear hi hin
  focus
    refine xc_seq ?_
    refine xc_seq ?_
    refine xc_region ?_
    refine xo_rd (rd_move rfl) rfl ?_
    refine xo_rd (rd_fieldAddr rfl) rfl ?_
    refine xo_rd (rd_fieldAddr rfl) rfl ?_
    refine xo_rd (rd_load1 rfl (c5 _ (by intro z hz; simp [hz]) 11 (.slice y.f.wp y.f.a.wt.length y.f.wc) rfl)) rfl ?_
    refine xo_rd (rd_len rfl) rfl ?_
    refine xo_rd (rd_lss rfl rfl) rfl ?_
    refine xo_nil ?_
    refine xq_seq ?_
    refine xc_dec rfl (fun h1 => (by exfalso; omega)) (fun h1 => ?_)
    refine xc_exit ?_
    refine xq_then_exit ?_
    refine xq_then_exit ?_
    refine xq_block_hit ?_
    refine xq_seq ?_
  refine xc_perm (L' := (l3 ++ (l2 ++ l)) ++ x.blks r G) (List.append_assoc l3 (l2 ++ l) _ ▸ List.Perm.refl _) ?_
  have hsrc := fun L => xf_RSource (W := W) (L := L) r x hx s
  have hmem := fun L => xf_RMember (W := W) (L := L) r x hx id
  have hrsr := fun L' (h : ∀ z, z ∈ x.blks r G → z ∈ L') => xf_rsource (W := W) (L := L') y.most y.ms y.rp y.rc (hyG _ h).r hy.ml s
  have hrge := fun L' (h : ∀ z, z ∈ x.blks r G → z ∈ L') => xf_rget (W := W) (L := L') y.most y.ms y.rp y.rc (hyG _ h).r hy.ml id
  rw [hms, any_map] at hsrc
  rw [hms] at hmem
  generalize (getSrc y.ms s).getD ⟨0, 0, 0, false⟩ = mS at *
  generalize decide (Option.map Mb.content (getSrc y.ms s) = some s) = bS at *
  generalize (getSrc y.ms s).isSome = cS at *
  generalize (getId y.ms id).getD ⟨0, 0, 0, false⟩ = mG at *
  generalize (getId y.ms id).isSome = cG at *
  have ro5 : ∀ L', (∀ z, z ∈ x.blks r G → z ∈ L') → ∀ (j : Nat) (u : Value), (roE y.most y.rp y.ms.length y.rc)[j]? = some u → Cl W L' r5 (0 + j) u := fun L' h => Rr.ro_cl (h _ ((Rm.sub r x G).subset h5))
  focus
    refine xc_seq ?_
    refine xc_region ?_
    refine xo_rd (rd_move rfl) rfl ?_
    refine xo_rd (rd_move rfl) rfl ?_
    refine xo_ef rfl (ef_call rfl (XF.mono ((hsrc ((l3 ++ (l2 ++ l)) ++ G)).permK (x.front r (l3 ++ (l2 ++ l)) G)) ?_))
    rintro v L' ⟨rfl, rfl⟩
    refine xo_rd (rd_move rfl) rfl ?_
    refine xo_rd (rd_extract rfl rfl) rfl ?_
    refine xo_rd (rd_extract rfl rfl) rfl ?_
    refine xo_rd (rd_extract rfl rfl) rfl ?_
    refine xo_ef rfl (ef_alloc fun r19 => ?_)
    refine xo_ef rfl (ef_storeB [] _ rfl rfl (by first | rfl | assumption) rfl rfl rfl ?_)
    refine xo_rd (rd_assign rfl) rfl ?_
    refine xo_rd (rd_assign rfl) rfl ?_
    refine xo_nil ?_
    refine xq_seq ?_
    refine xc_seq ?_
    refine xc_region ?_
    refine xo_rd (rd_fieldAddr rfl) rfl ?_
    refine xo_rd (rd_loadA (vs := roE y.most y.rp y.ms.length y.rc) rfl rfl (ro5 _ (by intro z hz; simp [hz]))) rfl ?_
    refine xo_rd (rd_move rfl) rfl ?_
    refine xo_ef rfl (ef_call rfl (XF.mono (hrsr _ (by intro z hz; simp [hz])) ?_))
    rintro v L' ⟨rfl, rfl⟩
    refine xo_rd (rd_move rfl) rfl ?_
    refine xo_rd (rd_extract rfl rfl) rfl ?_
    refine xo_rd (rd_extract rfl rfl) rfl ?_
    refine xo_rd (rd_extract rfl rfl) rfl ?_
    refine xo_ef rfl (ef_alloc fun r22 => ?_)
    refine xo_ef rfl (ef_storeB [] _ rfl rfl (by first | rfl | assumption) rfl rfl rfl ?_)
    refine xo_rd (rd_assign rfl) rfl ?_
    refine xo_rd (rd_assign rfl) rfl ?_
    refine xo_nil ?_
    refine xq_seq ?_
    refine xc_seq ?_
    refine xc_region ?_
    refine xo_rd (rd_move rfl) rfl ?_
    refine xo_rd (rd_move rfl) rfl ?_
    refine xo_ef rfl (ef_call rfl (XF.mono ((hmem (([_, _] ++ (l3 ++ (l2 ++ l))) ++ G)).permK (x.front r ([_, _] ++ (l3 ++ (l2 ++ l))) G)) ?_))
    rintro v L' ⟨rfl, rfl⟩
    refine xo_rd (rd_move rfl) rfl ?_
    refine xo_rd (rd_extract rfl rfl) rfl ?_
    refine xo_rd (rd_extract rfl rfl) rfl ?_
    refine xo_ef rfl (ef_alloc fun r25 => ?_)
    refine xo_ef rfl (ef_storeB [] _ rfl rfl (by first | rfl | assumption) rfl rfl rfl ?_)
    refine xo_rd (rd_assign rfl) rfl ?_
    refine xo_nil ?_
    refine xq_seq ?_
    refine xc_seq ?_
    refine xc_region ?_
    refine xo_rd (rd_fieldAddr rfl) rfl ?_
    refine xo_rd (rd_loadA (vs := roE y.most y.rp y.ms.length y.rc) rfl rfl (ro5 _ (by intro z hz; simp [hz]))) rfl ?_
    refine xo_rd (rd_move rfl) rfl ?_
    refine xo_ef rfl (ef_call rfl (XF.mono (hrge _ (by intro z hz; simp [hz])) ?_))
    rintro v L' ⟨rfl, rfl⟩
    refine xo_rd (rd_move rfl) rfl ?_
    refine xo_rd (rd_extract rfl rfl) rfl ?_
    refine xo_rd (rd_extract rfl rfl) rfl ?_
    refine xo_ef rfl (ef_alloc fun r27 => ?_)
    refine xo_ef rfl (ef_storeB [] _ rfl rfl (by first | rfl | assumption) rfl rfl rfl ?_)
    refine xo_rd (rd_assign rfl) rfl ?_
    refine xo_nil ?_
    refine xq_seq ?_
    refine xc_seq ?_
    refine xc_seq ?_
    refine xc_region ?_
    refine xo_rd (rd_assign rfl) rfl ?_
    refine xo_nil ?_
    refine xq_seq ?_
    refine xc_block ?_
  refine xc_perm (L' := l ++ (([(r27, Obj.cells mG.enc.toArray 88 (0, 0)), (r25, Obj.cells mG.enc.toArray 49 (0, 0)), (r22, Obj.cells mS.enc.toArray 88 (0, 0)), (r19, Obj.cells mS.enc.toArray 49 (0, 0))] ++ (l3 ++ l2)) ++ x.blks r G)) (perm_is l3 l2 l _) ?_
  refine xc_perm (L' := l ++ x.blks r (([(r27, Obj.cells mG.enc.toArray 88 (0, 0)), (r25, Obj.cells mG.enc.toArray 49 (0, 0)), (r22, Obj.cells mS.enc.toArray 88 (0, 0)), (r19, Obj.cells mS.enc.toArray 49 (0, 0))] ++ (l3 ++ l2)) ++ G)) ((x.front r _ G).append_left l) ?_
  obtain ⟨G3, hG3⟩ : ∃ G3, ([(r27, Obj.cells mG.enc.toArray 88 (0, 0)), (r25, Obj.cells mG.enc.toArray 49 (0, 0)), (r22, Obj.cells mS.enc.toArray 88 (0, 0)), (r19, Obj.cells mS.enc.toArray 49 (0, 0))] ++ (l3 ++ l2)) ++ G = G3 := ⟨_, rfl⟩
  rw [hG3]
  have h27 : (r27, Obj.cells mG.enc.toArray 88 (0, 0)) ∈ G3 := by rw [← hG3]; exact List.mem_cons_self
  have h25 : (r25, Obj.cells mG.enc.toArray 49 (0, 0)) ∈ G3 := by rw [← hG3]; exact List.mem_cons_of_mem _ List.mem_cons_self
  have h22 : (r22, Obj.cells mS.enc.toArray 88 (0, 0)) ∈ G3 := by rw [← hG3]; exact List.mem_cons_of_mem _ (List.mem_cons_of_mem _ List.mem_cons_self)
  have h19 : (r19, Obj.cells mS.enc.toArray 49 (0, 0)) ∈ G3 := by rw [← hG3]; exact List.mem_cons_of_mem _ (List.mem_cons_of_mem _ (List.mem_cons_of_mem _ List.mem_cons_self))
  have hl3 : ∀ z, z ∈ l3 → z ∈ x.blks r G3 := fun z hz => (Rm.sub r x G3).subset (by rw [← hG3]; exact List.mem_append_left _ (List.mem_append_right [_, _, _, _] (List.mem_append_left _ hz)))
  have hl2 : ∀ z, z ∈ l2 → z ∈ x.blks r G3 := fun z hz => (Rm.sub r x G3).subset (by rw [← hG3]; exact List.mem_append_left _ (List.mem_append_right [_, _, _, _] (List.mem_append_right _ hz)))
  have hG3s : (x.blks r G).Sublist (x.blks r G3) := by rw [← hG3]; exact x.blks_sub r _ G
  clear hG3 hsrc hmem hrsr hrge ro5
  have hLB : (x.blks r L).Sublist (x.blks r G3) := hLG.trans hG3s
  refine xc_loopI (ι := SpS) (fun s => s.i ≤ ucs.length ∧ s.xs.length = ucs.length ∧ SlQ 1 3 (.slice q ucs.length k) ucs.length (ints .i64 s.xs) s.l) (fun s => ucs.length - s.i) (fun s => s.l ++ x.blks r G3) (fun z => [(0, .pointer (some ⟨r, 0, none⟩)), (2, .int .i64 id), (5, .pointer (some ⟨r5, 0, none⟩)), (11, .pointer (some ⟨r11, 0, none⟩)), (15, .slice p2 y.ws.length c2), (16, .slice p3 y.f.a.wt.length c3), (19, .pointer (some ⟨r19, 0, none⟩)), (20, .bool bS), (21, .bool cS), (22, .pointer (some ⟨r22, 0, none⟩)), (23, .bool bS), (24, .bool cS), (25, .pointer (some ⟨r25, 0, none⟩)), (26, .bool cG), (27, .pointer (some ⟨r27, 0, none⟩)), (28, .bool cG), (29, .int .i64 z.i)]) ⟨0, ucs, l⟩ ⟨Nat.zero_le _, rfl, hO.q⟩ rfl (by repeat (first | exact keep_nil | refine keep_cons rfl ?_)) ?_
  rintro ⟨i, xs, l4⟩ ⟨hi, hxl, hO4⟩
  dsimp only at hi hxl hO4 ⊢
  have d11 : ∀ L', (∀ z, z ∈ x.blks r G3 → z ∈ L') → Cl W L' r11 1 (.slice q ucs.length k) := fun L' h => c11 _ (fun z hz => h z (hG3s.subset hz)) 1 _ rfl
  by_cases hin : i < ucs.length
  · obtain ⟨b, o, hpb, hc⟩ := (hO4.rsl (W := W) (R := x.blks r G3)).int (i := i) (by omega)
    subst hpb
    focus
      refine xc_seq ?_
      refine xc_seq ?_
      refine xc_region ?_
      refine xo_rd (rd_move rfl) rfl ?_
      refine xo_rd (rd_fieldAddr rfl) rfl ?_
      refine xo_rd (rd_load1 rfl (d11 _ (by intro z hz; simp [hz]))) rfl ?_
      refine xo_rd (rd_len rfl) rfl ?_
      refine xo_rd (rd_lss rfl rfl) rfl ?_
      refine xo_nil ?_
      refine xq_seq ?_
      refine xc_dec rfl (fun hz1 => ?_) (fun hz1 => (by exfalso; omega))
      refine xc_skip ?_
      refine xq_seq ?_
      refine xc_seq ?_
      refine xc_block ?_
      refine xc_region ?_
      refine xo_rd (rd_fieldAddr rfl) rfl ?_
      refine xo_rd (rd_load1 rfl (d11 _ (by intro z hz; simp [hz]))) rfl ?_
      refine xo_rd (rd_move rfl) rfl ?_
      refine xo_rd (rd_indexAddr rfl rfl (by omega) (by omega)) rfl ?_
      refine xo_ef rfl (ef_storeQ1 [] (x.blks r G3) i (v := .int .i64 99) hO4 rfl (by omega) rfl rfl rfl (by omega) rfl fun l5 hO5 => ?_)
      refine xo_nil ?_
      refine xq_block ?_
      refine xq_seq ?_
      refine xc_region ?_
      refine xo_rd (rd_move rfl) rfl ?_
      refine xo_rd (rd_addn rfl rfl (by omega) (by omega)) rfl ?_
      refine xo_rd (rd_assign rfl) rfl ?_
      refine xo_nil ?_
    exact xq_roundI (⟨i + 1, xs.set i 99, l5⟩ : SpS) ⟨by dsimp only; omega, by dsimp only; rw [List.length_set]; exact hxl, by dsimp only; rw [ints_set]; exact hO5⟩ (by dsimp only; omega) rfl (by repeat (first | exact keep_nil | refine keep_cons rfl ?_))
  focus
    refine xc_seq ?_
    refine xc_seq ?_
    refine xc_region ?_
    refine xo_rd (rd_move rfl) rfl ?_
    refine xo_rd (rd_fieldAddr rfl) rfl ?_
    refine xo_rd (rd_load1 rfl (d11 _ (by intro z hz; simp [hz]))) rfl ?_
    refine xo_rd (rd_len rfl) rfl ?_
    refine xo_rd (rd_lss rfl rfl) rfl ?_
    refine xo_nil ?_
    refine xq_seq ?_
    refine xc_dec rfl (fun h1 => (by exfalso; omega)) (fun h1 => ?_)
    refine xc_exit ?_
    refine xq_then_exit ?_
    refine xq_then_exit ?_
    refine xq_block_hit ?_
    refine xq_seq ?_
  refine xc_sub (List.sublist_append_right l4 _) ?_
  have a19 : ∀ (L' : List Blk), (∀ z, z ∈ x.blks r G3 → z ∈ L') → (r19, Obj.cells mS.enc.toArray 49 (0, 0)) ∈ L' := fun L' h => h _ ((Rm.sub r x G3).subset h19)
  have a22 : ∀ (L' : List Blk), (∀ z, z ∈ x.blks r G3 → z ∈ L') → (r22, Obj.cells mS.enc.toArray 88 (0, 0)) ∈ L' := fun L' h => h _ ((Rm.sub r x G3).subset h22)
  have a25 : ∀ (L' : List Blk), (∀ z, z ∈ x.blks r G3 → z ∈ L') → (r25, Obj.cells mG.enc.toArray 49 (0, 0)) ∈ L' := fun L' h => h _ ((Rm.sub r x G3).subset h25)
  have a27 : ∀ (L' : List Blk), (∀ z, z ∈ x.blks r G3 → z ∈ L') → (r27, Obj.cells mG.enc.toArray 88 (0, 0)) ∈ L' := fun L' h => h _ ((Rm.sub r x G3).subset h27)
  have a5 : ∀ (L' : List Blk), (∀ z, z ∈ x.blks r G3 → z ∈ L') → (r5, Obj.cells y.enc.toArray 45 (0, 0)) ∈ L' := fun L' h => h _ (hG3s.subset ((Rm.sub r x G).subset h5))
  have hyB : ∀ L', (∀ z, z ∈ x.blks r G3 → z ∈ L') → y.At W L' := fun L' h => hyG _ fun z hz => h z (hG3s.subset hz)
  have f2 : ∀ L', (∀ z, z ∈ x.blks r G3 → z ∈ L') → Rs W L' p2 (ints .i64 (y.ms.map Mb.id)) := fun L' h => hsl.rs fun z hz => h z (hl2 z hz)
  have f3 : ∀ L', (∀ z, z ∈ x.blks r G3 → z ∈ L') → Rs W L' p3 (ints .i64 y.f.a.wt) := fun L' h => hsl3.rs fun z hz => h z (hl3 z hz)
  have e1 := xf_RIds (W := W) (L := G3) r x hx
  have e2 := fun L => xf_RWaiting (W := W) (L := L) r x hx (by rw [hfa]; exact hwtu)
  have e3 := fun L => xf_RAudience (W := W) (L := L) r x hx (by rw [hfa]; exact hwhu)
  have e4 := fun L => xf_RViewers (W := W) (L := L) r x hx id
  have e5 := fun L' (h : ∀ z, z ∈ x.blks r G3 → z ∈ L') => xf_r2Audience (W := W) (L := L') y (hyB _ h) hwhu
  have e6 := fun L' (h : ∀ z, z ∈ x.blks r G3 → z ∈ L') => xf_r2Viewers (W := W) (L := L') y (hyB _ h) id
  have t1 : (x.ro.ms.map Mb.id).filter (audP x.was x.fm.a.held x.fm.a.who) = audL y.ra.ws y.f.a.held y.f.a.who := by rw [← hfa, hra]; exact hinv.aud _ _
  have t2 : (x.ro.ms.map Mb.id).filter (viewP x.was id) = vieL y.ra.ws id := by rw [hra]; exact hinv.vie _
  have t3 := audL_le y.ra.ws y.f.a.held y.f.a.who
  have t4 := vieL_le y.ra.ws id
  have t5 : y.ra.ws.length ≤ 32 := by rw [hra]; exact hinv.len32.2.2
  rw [t1] at e3
  rw [t2] at e4
  rw [hms] at e1
  rw [hfa] at e2
  generalize audL y.ra.ws y.f.a.held y.f.a.who = au at *
  generalize vieL y.ra.ws id = vi at *
  clear c13 c11 c9 c5 hyG hpen hhol hwat hof d11 t1 t2
  focus
    refine xc_seq ?_
    refine xc_drawM [0, 1, 0, 6, 8, 16, 48, 16, 208, 272, 768, 1024, 3072, 1024, 13312, 21504, 33792, 98304, 131072, 131072, 917504, 131072, 131072, 7471104, 9568256, 16908288, 50331648, 67108864, 201326592, 67108864, 872415232, 1140850688, 2415919104, 4294967296, 4294967296, 30064771072, 38654705664, 73014444032, 137438953472, 137438953472, 962072674304, 1236950581248, 2336462209024, 4398046511104, 13194139533312, 4398046511104, 57174604644352, 74766790688768, 158329674399744, 281474976710656, 281474976710656, 1970324836974592, 2533274790395904, 9007199254740991] [0, 1, 0, 6, 8, 16, 48, 16, 208, 272, 768, 1024, 3072, 1024, 13312, 21504, 33792, 98304, 131072, 131072, 917504, 131072, 131072, 7471104, 9568256, 16908288, 50331648, 67108864, 201326592, 67108864, 872415232, 1140850688, 2415919104, 4294967296, 4294967296, 30064771072, 38654705664, 73014444032, 137438953472, 137438953472, 962072674304, 1236950581248, 2336462209024, 4398046511104, 13194139533312, 4398046511104, 57174604644352, 74766790688768, 158329674399744, 281474976710656, 281474976710656, 1970324836974592, 2533274790395904, 9007199254740991] (x.blks r G3) (by kernel_rfl) (by kernel_rfl) (by kernel_rfl) ?_
    refine xm_take 0 (m' := 1) rfl (by kernel_rfl) Sb.a (rd_move rfl) rfl (by kernel_rfl) ?_
    refine xm_take 2 (m' := 5) rfl (by kernel_rfl) Sb.a (rd_move rfl) rfl (by kernel_rfl) ?_
    refine xm_one 1 (m' := 7) rfl (by kernel_rfl) rfl (by kernel_rfl) (ef_call rfl (XF.mono (e1) ?_))
    rintro v L' ⟨p50, k50, l50, rfl, hO50, rfl⟩
    refine ⟨Sb.a, ?_⟩
    refine xm_one 3 (m' := 15) rfl (by kernel_rfl) rfl (by kernel_rfl) (ef_call rfl (XF.mono (xf_sameT p50 p2 _ _ _ _ (y.ms.map Mb.id) (y.ms.map Mb.id) (by rw [List.length_map]) (by rw [← hwid, List.length_map]) (hO50.rs (by intro z hz; simp [hz])) (f2 _ (by intro z hz; simp [hz])) (by omega) rfl) ?_))
    rintro v L' ⟨rfl, rfl⟩
    refine ⟨Sb.a, ?_⟩
    refine xm_take 4 (m' := 31) rfl (by kernel_rfl) Sb.a (rd_move rfl) rfl (by kernel_rfl) ?_
    refine xm_gtake 5 (m' := 63) rfl (by kernel_rfl) Sb.a rfl rfl (rd_move rfl) rfl (by kernel_rfl) ?_
    refine xm_gtake 7 (m' := 191) rfl (by kernel_rfl) Sb.a rfl rfl (rd_move rfl) rfl (by kernel_rfl) ?_
    refine xm_gone 6 (m' := 255) rfl (by kernel_rfl) rfl rfl rfl (by kernel_rfl) (ef_call rfl (XF.mono (XF.aheadQ l50 G3 rfl (e2 _)) ?_))
    rintro v L' ⟨p51, k51, l51, rfl, hO51, rfl⟩
    refine ⟨Sb.a, ?_⟩
    refine xm_gone 8 (m' := 511) rfl (by kernel_rfl) rfl rfl rfl (by kernel_rfl) (ef_call rfl (XF.mono (xf_sameT p51 p3 _ _ _ _ y.f.a.wt y.f.a.wt rfl rfl (hO51.rs (by intro z hz; simp [hz])) (f3 _ (by intro z hz; simp [hz])) (by omega) rfl) ?_))
    rintro v L' ⟨rfl, rfl⟩
    refine ⟨Sb.a, ?_⟩
    refine xm_take 9 (m' := 1023) rfl (by kernel_rfl) Sb.a (rd_pickt rfl rfl) rfl (by kernel_rfl) ?_
    refine xm_take 10 (m' := 2047) rfl (by kernel_rfl) Sb.a (rd_move rfl) rfl (by kernel_rfl) ?_
    refine xm_gtake 11 (m' := 4095) rfl (by kernel_rfl) Sb.a rfl rfl (rd_move rfl) rfl (by kernel_rfl) ?_
    refine xm_gtake 13 (m' := 12287) rfl (by kernel_rfl) Sb.a rfl rfl (rd_loadA (vs := y.enc) rfl rfl (cl_sub (b := r5) (vs := y.enc) (T := 45) (fr := (0, 0)) 0 (a5 _ (by intro z hz; simp [hz])) rfl)) rfl (by kernel_rfl) ?_
    refine xm_gone 12 (m' := 16383) rfl (by kernel_rfl) rfl rfl rfl (by kernel_rfl) (ef_call rfl (XF.mono (XF.aheadQ (l51 ++ l50) G3 (List.append_assoc ..) (e3 _)) ?_))
    rintro v L' ⟨p18, k18, l18, rfl, hO18, rfl⟩
    refine ⟨Sb.a, ?_⟩
    refine xm_gone 14 (m' := 32767) rfl (by kernel_rfl) rfl rfl rfl (by kernel_rfl) (ef_call rfl (XF.mono (e5 _ (by intro z hz; simp [hz])) ?_))
    rintro v L' ⟨p52, k52, l52, rfl, hO52, rfl⟩
    refine ⟨Sb.a, ?_⟩
    refine xm_gone 15 (m' := 65535) rfl (by kernel_rfl) rfl rfl rfl (by kernel_rfl) (ef_call rfl (XF.mono (xf_sameT p18 p52 _ _ _ _ au au rfl rfl (hO18.rs (by intro z hz; simp [hz])) (hO52.rs (by intro z hz; simp [hz])) (by omega) rfl) ?_))
    rintro v L' ⟨rfl, rfl⟩
    refine ⟨Sb.a, ?_⟩
    refine xm_take 16 (m' := 131071) rfl (by kernel_rfl) Sb.a (rd_pickt rfl rfl) rfl (by kernel_rfl) ?_
    refine xm_take 17 (m' := 262143) rfl (by kernel_rfl) Sb.a (rd_move rfl) rfl (by kernel_rfl) ?_
    refine xm_gtake 18 (m' := 524287) rfl (by kernel_rfl) Sb.a rfl rfl (rd_move rfl) rfl (by kernel_rfl) ?_
    refine xm_gtake 19 (m' := 1048575) rfl (by kernel_rfl) Sb.a rfl rfl (rd_move rfl) rfl (by kernel_rfl) ?_
    refine xm_gtake 21 (m' := 3145727) rfl (by kernel_rfl) Sb.a rfl rfl (rd_loadA (vs := y.enc) rfl rfl (cl_sub (b := r5) (vs := y.enc) (T := 45) (fr := (0, 0)) 0 (a5 _ (by intro z hz; simp [hz])) rfl)) rfl (by kernel_rfl) ?_
    refine xm_gtake 22 (m' := 7340031) rfl (by kernel_rfl) Sb.a rfl rfl (rd_move rfl) rfl (by kernel_rfl) ?_
    refine xm_gone 20 (m' := 8388607) rfl (by kernel_rfl) rfl rfl rfl (by kernel_rfl) (ef_call rfl (XF.mono (XF.aheadQ (l52 ++ (l18 ++ (l51 ++ l50))) G3 (by simp only [List.append_assoc]) (e4 _)) ?_))
    rintro v L' ⟨p19, k19, l19, rfl, hO19, rfl⟩
    refine ⟨Sb.a, ?_⟩
    refine xm_gone 23 (m' := 16777215) rfl (by kernel_rfl) rfl rfl rfl (by kernel_rfl) (ef_call rfl (XF.mono (e6 _ (by intro z hz; simp [hz])) ?_))
    rintro v L' ⟨p53, k53, l53, g53, rfl, hO53, rfl⟩
    refine ⟨Sb.a, ?_⟩
    refine xm_gone 24 (m' := 33554431) rfl (by kernel_rfl) rfl rfl rfl (by kernel_rfl) (ef_call rfl (XF.mono (xf_sameT p19 p53 _ _ _ _ vi vi rfl rfl (hO19.rs (by intro z hz; simp [hz])) (hO53.rs (by intro z hz; simp [hz])) (by omega) rfl) ?_))
    rintro v L' ⟨rfl, rfl⟩
    refine ⟨Sb.a, ?_⟩
    refine xm_take 25 (m' := 67108863) rfl (by kernel_rfl) Sb.a (rd_pickt rfl rfl) rfl (by kernel_rfl) ?_
    refine xm_take 26 (m' := 134217727) rfl (by kernel_rfl) Sb.a (rd_move rfl) rfl (by kernel_rfl) ?_
    refine xm_gtake 27 (m' := 268435455) rfl (by kernel_rfl) Sb.a rfl rfl (rd_loadA (vs := mS.enc) rfl rfl (cl_sub (b := r19) (vs := mS.enc) (T := 49) (fr := (0, 0)) 0 (a19 _ (by intro z hz; simp [hz])) rfl)) rfl (by kernel_rfl) ?_
    refine xm_gtake 29 (m' := 805306367) rfl (by kernel_rfl) Sb.a rfl rfl (rd_loadA (vs := mS.enc) rfl rfl (cl_sub (b := r22) (vs := mS.enc) (T := 88) (fr := (0, 0)) 0 (a22 _ (by intro z hz; simp [hz])) rfl)) rfl (by kernel_rfl) ?_
    refine xm_gone 28 (m' := 1073741823) rfl (by kernel_rfl) rfl rfl rfl (by kernel_rfl) (ef_call rfl (XF.mono (xf_mbR mS) ?_))
    rintro v L' ⟨rfl, rfl⟩
    refine ⟨Sb.a, ?_⟩
    refine xm_gtake 30 (m' := 2147483647) rfl (by kernel_rfl) Sb.a rfl rfl (rd_cast (v' := .bool true) (rd_eqS (eqsM88 mS mS) rfl rfl) (by rw [decide_eq_true rfl])) rfl (by kernel_rfl) ?_
    refine xm_take 31 (m' := 4294967295) rfl (by kernel_rfl) Sb.a (rd_pickt rfl rfl) rfl (by kernel_rfl) ?_
    refine xm_take 32 (m' := 8589934591) rfl (by kernel_rfl) Sb.a (rd_move rfl) rfl (by kernel_rfl) ?_
    refine xm_gtake 33 (m' := 17179869183) rfl (by kernel_rfl) Sb.a rfl rfl (rd_move rfl) rfl (by kernel_rfl) ?_
    refine xm_gtake 34 (m' := 34359738367) rfl (by kernel_rfl) Sb.a rfl rfl (rd_move rfl) rfl (by kernel_rfl) ?_
    refine xm_gtake 35 (m' := 68719476735) rfl (by kernel_rfl) Sb.a rfl rfl (rd_cast (v' := .bool true) (rd_eqb rfl rfl) (by rw [beq_self_eq_true])) rfl (by kernel_rfl) ?_
    refine xm_take 36 (m' := 137438953471) rfl (by kernel_rfl) Sb.a (rd_pickt rfl rfl) rfl (by kernel_rfl) ?_
    refine xm_take 37 (m' := 274877906943) rfl (by kernel_rfl) Sb.a (rd_move rfl) rfl (by kernel_rfl) ?_
    refine xm_gtake 38 (m' := 549755813887) rfl (by kernel_rfl) Sb.a rfl rfl (rd_move rfl) rfl (by kernel_rfl) ?_
    refine xm_gtake 39 (m' := 1099511627775) rfl (by kernel_rfl) Sb.a rfl rfl (rd_move rfl) rfl (by kernel_rfl) ?_
    refine xm_gtake 40 (m' := 2199023255551) rfl (by kernel_rfl) Sb.a rfl rfl (rd_cast (v' := .bool true) (rd_eqb rfl rfl) (by rw [beq_self_eq_true])) rfl (by kernel_rfl) ?_
    refine xm_take 41 (m' := 4398046511103) rfl (by kernel_rfl) Sb.a (rd_pickt rfl rfl) rfl (by kernel_rfl) ?_
    refine xm_take 42 (m' := 8796093022207) rfl (by kernel_rfl) Sb.a (rd_move rfl) rfl (by kernel_rfl) ?_
    refine xm_gtake 43 (m' := 17592186044415) rfl (by kernel_rfl) Sb.a rfl rfl (rd_loadA (vs := mG.enc) rfl rfl (cl_sub (b := r25) (vs := mG.enc) (T := 49) (fr := (0, 0)) 0 (a25 _ (by intro z hz; simp [hz])) rfl)) rfl (by kernel_rfl) ?_
    refine xm_gtake 45 (m' := 52776558133247) rfl (by kernel_rfl) Sb.a rfl rfl (rd_loadA (vs := mG.enc) rfl rfl (cl_sub (b := r27) (vs := mG.enc) (T := 88) (fr := (0, 0)) 0 (a27 _ (by intro z hz; simp [hz])) rfl)) rfl (by kernel_rfl) ?_
    refine xm_gone 44 (m' := 70368744177663) rfl (by kernel_rfl) rfl rfl rfl (by kernel_rfl) (ef_call rfl (XF.mono (xf_mbR mG) ?_))
    rintro v L' ⟨rfl, rfl⟩
    refine ⟨Sb.a, ?_⟩
    refine xm_gtake 46 (m' := 140737488355327) rfl (by kernel_rfl) Sb.a rfl rfl (rd_cast (v' := .bool true) (rd_eqS (eqsM88 mG mG) rfl rfl) (by rw [decide_eq_true rfl])) rfl (by kernel_rfl) ?_
    refine xm_take 47 (m' := 281474976710655) rfl (by kernel_rfl) Sb.a (rd_pickt rfl rfl) rfl (by kernel_rfl) ?_
    refine xm_take 48 (m' := 562949953421311) rfl (by kernel_rfl) Sb.a (rd_move rfl) rfl (by kernel_rfl) ?_
    refine xm_gtake 49 (m' := 1125899906842623) rfl (by kernel_rfl) Sb.a rfl rfl (rd_move rfl) rfl (by kernel_rfl) ?_
    refine xm_gtake 50 (m' := 2251799813685247) rfl (by kernel_rfl) Sb.a rfl rfl (rd_move rfl) rfl (by kernel_rfl) ?_
    refine xm_gtake 51 (m' := 4503599627370495) rfl (by kernel_rfl) Sb.a rfl rfl (rd_cast (v' := .bool true) (rd_eqb rfl rfl) (by rw [beq_self_eq_true])) rfl (by kernel_rfl) ?_
    refine xm_take 52 (m' := 9007199254740991) rfl (by kernel_rfl) Sb.a (rd_pickt rfl rfl) rfl (by kernel_rfl) ?_
    refine xm_take 53 (m' := 18014398509481983) rfl (by kernel_rfl) Sb.a (rd_assign rfl) rfl (by kernel_rfl) ?_
    refine xm_done (by kernel_rfl) ?_
    refine xq_seq ?_
    refine xc_ret ?_
  all_goals exact xq_sub (((((((hLB.trans (List.sublist_append_right l50 _)).trans (List.sublist_append_right l51 _)).trans (List.sublist_append_right l18 _)).trans (List.sublist_append_right l52 _)).trans (List.sublist_append_right l19 _)).trans (List.sublist_append_right g53 _)).trans (List.sublist_append_right l53 _)) (xq_ret1 (.inl rfl) Tryz.results11 rfl ⟨rfl, rfl⟩)
end Go.Proofs.YtmdeajdaeihniaaGreat.X
