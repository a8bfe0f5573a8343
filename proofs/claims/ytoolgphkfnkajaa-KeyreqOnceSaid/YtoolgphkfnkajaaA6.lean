/-
  Chapter 23: sources by rising numbers: what is asked, put, told: no program in sight, no condition.
-/
import Derived.Test.YtoolgphkfnkajaaA5
namespace Go.Proofs.Ytoolgphkfnkajaa.X
open Go Go.RowKit
set_option linter.unusedVariables false
set_option linter.unusedSimpArgs false
def getS (l : List Sr) (id : Int) : Sr := (srF l id).getD ⟨id, 0, 0, 0⟩
def mayB (w : Int) (s : Sr) (now : Int) : Bool := decide (s.sent = 0) || (decide (s.last ≤ now) && decide (w ≤ now - s.last))
def askS (w now : Int) (s : Sr) : Sr := if mayB w s now = true then ⟨s.id, now, s.sent + 1, 0⟩ else ⟨s.id, s.last, s.sent, 1⟩
def putS (s : Sr) : List Sr → List Sr
  | [] => [s]
  | x :: r => if s.id < x.id then s :: x :: r else if s.id = x.id then s :: r else x :: putS s r
def askL (w : Int) (l : List Sr) (id now : Int) : List Sr := putS (askS w now (getS l id)) l
theorem getS_id (l : List Sr) (id : Int) : (getS l id).id = id := by
  unfold getS srF
  cases h : l.find? (fun s => s.id == id) with
  | none => rfl
  | some s => simpa using List.find?_some h
theorem askS_id (w now : Int) (s : Sr) : (askS w now s).id = s.id := by unfold askS; split <;> rfl
theorem srF_cons (x : Sr) (l : List Sr) (z : Int) : srF (x :: l) z = if x.id = z then some x else srF l z := by
  unfold srF
  rw [List.find?_cons]
  by_cases h : x.id = z
  · rw [if_pos h, show (x.id == z) = true by simpa using h]
  · rw [if_neg h, show (x.id == z) = false by simpa using h]
theorem srF_put (s : Sr) : ∀ (l : List Sr) (z : Int), (l.map Sr.id).Pairwise (· < ·) → srF (putS s l) z = if z = s.id then some s else srF l z
  | [], z, _ => by
    unfold putS
    rw [srF_cons]
    by_cases h : s.id = z
    · rw [if_pos h, if_pos h.symm]
    · rw [if_neg h, if_neg (fun e => h e.symm)]
  | x :: r, z, hp => by
    rw [List.map_cons, List.pairwise_cons] at hp
    unfold putS
    split
    · rw [srF_cons]
      by_cases h : s.id = z
      · rw [if_pos h, if_pos h.symm]
      · rw [if_neg h, if_neg (fun e => h e.symm)]
    · split
      · rename_i h1 h2
        rw [srF_cons, srF_cons]
        by_cases h : s.id = z
        · rw [if_pos h, if_pos h.symm]
        · rw [if_neg h, if_neg (fun e => h e.symm), if_neg (by rw [← h2]; exact h)]
      · rename_i h1 h2
        rw [srF_cons, srF_cons, srF_put s r z hp.2]
        by_cases h : x.id = z
        · rw [if_pos h, if_pos h, if_neg (by omega)]
        · rw [if_neg h, if_neg h]
theorem put_mem {s : Sr} : ∀ {l : List Sr} {y : Sr}, y ∈ putS s l → y = s ∨ y ∈ l
  | [], y, h => by unfold putS at h; simpa using h
  | x :: r, y, h => by
    unfold putS at h
    split at h
    · simpa using h
    · split at h
      · rcases List.mem_cons.1 h with h | h
        · exact .inl h
        · exact .inr (List.mem_cons_of_mem _ h)
      · rcases List.mem_cons.1 h with h | h
        · exact .inr (h ▸ List.mem_cons_self)
        · rcases put_mem h with h | h
          · exact .inl h
          · exact .inr (List.mem_cons_of_mem _ h)
theorem put_sorted {s : Sr} : ∀ {l : List Sr}, (l.map Sr.id).Pairwise (· < ·) → ((putS s l).map Sr.id).Pairwise (· < ·)
  | [], _ => by simp [putS]
  | x :: r, hp => by
    have hp2 := hp
    rw [List.map_cons, List.pairwise_cons] at hp
    unfold putS
    split
    · rename_i h
      rw [List.map_cons, List.pairwise_cons]
      refine ⟨fun z hz => ?_, hp2⟩
      rw [List.map_cons, List.mem_cons] at hz
      rcases hz with rfl | hz
      · exact h
      · have := hp.1 z hz; omega
    · split
      · rename_i h1 h2
        rw [List.map_cons, List.pairwise_cons]
        exact ⟨fun z hz => by rw [h2]; exact hp.1 z hz, hp.2⟩
      · rename_i h1 h2
        rw [List.map_cons, List.pairwise_cons]
        refine ⟨fun z hz => ?_, put_sorted hp.2⟩
        obtain ⟨y, hy, rfl⟩ := List.mem_map.1 hz
        rcases put_mem hy with rfl | hy
        · omega
        · exact hp.1 _ (List.mem_map_of_mem hy)
theorem put_len {s : Sr} : ∀ {l : List Sr}, (l.map Sr.id).Pairwise (· < ·) → (putS s l).length = if (srF l s.id).isSome = true then l.length else l.length + 1
  | [], _ => by simp [putS, srF]
  | x :: r, hp => by
    rw [List.map_cons, List.pairwise_cons] at hp
    have ih := put_len (s := s) hp.2
    have hc := srF_cons x r s.id
    unfold putS
    split
    · rename_i h
      have : (srF (x :: r) s.id).isSome = false := by
        rw [hc, if_neg (by omega)]
        cases hs : (srF r s.id).isSome with
        | false => rfl
        | true => have := hp.1 _ (srF_mem.1 hs); omega
      rw [this]; simp
    · split
      · rename_i h1 h2
        rw [hc, if_pos h2.symm]; simp
      · rename_i h1 h2
        rw [hc, if_neg (show ¬ x.id = s.id from fun e => h2 e.symm), List.length_cons, ih, List.length_cons]
        split <;> rfl
/-- What is there already is put in its place. -/
theorem put_map {s : Sr} : ∀ {l : List Sr}, (l.map Sr.id).Pairwise (· < ·) → s.id ∈ l.map Sr.id → putS s l = l.map fun x => if x.id = s.id then s else x
  | [], _, h => by cases h
  | x :: r, hp, h => by
    rw [List.map_cons, List.pairwise_cons] at hp
    unfold putS
    rw [List.map_cons, List.mem_cons] at h
    split
    · rename_i h1
      rcases h with h | h
      · omega
      · have := hp.1 _ h; omega
    · split
      · rename_i h1 h2
        rw [List.map_cons, if_pos h2.symm]
        congr 1
        symm
        rw [List.map_congr_left (g := id)]
        · simp
        · intro y hy
          have := hp.1 y.id (List.mem_map_of_mem hy)
          rw [if_neg (by omega)]; rfl
      · rename_i h1 h2
        rw [List.map_cons, if_neg (fun e => h2 e.symm)]
        rcases h with h | h
        · exact absurd h h2
        · rw [put_map hp.2 h]
theorem getS_mem {l : List Sr} {s : Sr} (hp : (l.map Sr.id).Pairwise (· < ·)) (h : s ∈ l) : getS l s.id = s := by
  unfold getS
  induction l with
  | nil => cases h
  | cons x r ih =>
    rw [List.map_cons, List.pairwise_cons] at hp
    rw [srF_cons]
    rcases List.mem_cons.1 h with rfl | h
    · rw [if_pos rfl]; rfl
    · have := hp.1 _ (List.mem_map_of_mem (f := Sr.id) h)
      rw [if_neg (by omega)]; exact ih hp.2 h
/-- Those that are on a row are asked. -/
def stepM (w now : Int) (ds : List Int) (l : List Sr) : List Sr := l.map fun s => if s.id ∈ ds then askS w now s else s
theorem stepM_ids (w now : Int) (ds : List Int) (l : List Sr) : (stepM w now ds l).map Sr.id = l.map Sr.id := by
  unfold stepM
  rw [List.map_map]
  refine List.map_congr_left fun s _ => ?_
  show (if s.id ∈ ds then askS w now s else s).id = s.id
  split
  · exact askS_id ..
  · rfl
theorem stepM_get {w now : Int} {ds : List Int} {l : List Sr} (hp : (l.map Sr.id).Pairwise (· < ·)) {s : Sr} (hs : s ∈ l) (hd : s.id ∉ ds) : getS (stepM w now ds l) s.id = s := by
  have hm : s ∈ stepM w now ds l := by
    unfold stepM
    exact List.mem_map.2 ⟨s, hs, if_neg hd⟩
  exact getS_mem (by rw [stepM_ids]; exact hp) hm
theorem stepM_ask {w now : Int} {ds : List Int} {l : List Sr} (hp : (l.map Sr.id).Pairwise (· < ·)) {s : Sr} (hs : s ∈ l) (hd : s.id ∉ ds) : askL w (stepM w now ds l) s.id now = stepM w now (ds ++ [s.id]) l := by
  unfold askL
  rw [stepM_get hp hs hd, put_map (by rw [stepM_ids]; exact hp) (by rw [stepM_ids, askS_id]; exact List.mem_map_of_mem hs)]
  unfold stepM
  rw [List.map_map]
  refine List.map_congr_left fun y hy => ?_
  show (if (if y.id ∈ ds then askS w now y else y).id = (askS w now s).id then askS w now s else (if y.id ∈ ds then askS w now y else y)) = if y.id ∈ ds ++ [s.id] then askS w now y else y
  have hyi : (if y.id ∈ ds then askS w now y else y).id = y.id := by
    split
    · exact askS_id ..
    · rfl
  rw [hyi, askS_id]
  by_cases hys : y.id = s.id
  · have : y = s := by rw [← getS_mem hp hy, ← getS_mem hp hs, hys]
    subst this
    rw [if_pos rfl, if_pos (by simp)]
  · rw [if_neg hys]
    by_cases hyd : y.id ∈ ds
    · rw [if_pos hyd, if_pos (List.mem_append_left _ hyd)]
    · rw [if_neg hyd, if_neg (by simp [hyd, hys])]
def dueS (w now : Int) (s : Sr) : Bool := decide (0 < s.wt) && mayB w s now
def tickL (w : Int) (l : List Sr) (now : Int) : List Sr := l.map fun s => if dueS w now s = true then askS w now s else s
def tickO (w : Int) (l : List Sr) (now : Int) : List Int := (l.filter (dueS w now)).map Sr.id
theorem tickL_step {w now : Int} {l : List Sr} (hp : (l.map Sr.id).Pairwise (· < ·)) : stepM w now (tickO w l now) l = tickL w l now := by
  unfold stepM tickL
  refine List.map_congr_left fun s hs => ?_
  by_cases h : dueS w now s = true
  · rw [if_pos h, if_pos]
    exact List.mem_map_of_mem (List.mem_filter.2 ⟨hs, h⟩)
  · rw [if_neg h, if_neg]
    intro hm
    obtain ⟨y, hy, he⟩ := List.mem_map.1 hm
    have hy2 := List.mem_filter.1 hy
    have : y = s := by rw [← getS_mem hp hy2.1, ← getS_mem hp hs, he]
    subst this
    exact h hy2.2
def waitL (l : List Sr) : List Int := (l.filter fun s => decide (0 < s.wt)).map Sr.id
def ansS (s : Sr) : Sr := ⟨s.id, s.last, s.sent, 0⟩
def ansL (ds : List Int) (l : List Sr) : List Sr := l.map fun s => if s.id ∈ ds ∧ 0 < s.wt then ansS s else s
def dropL (l : List Sr) (id : Int) : List Sr := l.filter fun s => !(s.id == id)
theorem filt_ids {l : List Sr} (hp : (l.map Sr.id).Pairwise (· < ·)) (ph : Sr → Bool) : (l.map Sr.id).filter (fun id => ph (getS l id)) = (l.filter ph).map Sr.id := by
  rw [List.filter_map]
  congr 1
  refine List.filter_congr fun s hs => ?_
  show ph (getS l s.id) = ph s
  rw [getS_mem hp hs]
end Go.Proofs.Ytoolgphkfnkajaa.X
