/-
  What is put is right, and told as it was: plain laws, no program.
-/
import Derived.Test.YtohlaabclifbfaaE5
namespace Go.Proofs.Ytohlaabclifbfaa.X
open Go Go.RowKit
set_option linter.unusedVariables false
set_option linter.unusedSimpArgs false
theorem take_app (xs ys : List Int) (k n : Nat) (h : xs.length = n) : (⟨xs ++ ys, k, false⟩ : Rd).take n = (xs, ⟨ys, k + n, false⟩) := by
  subst h
  rw [Rd.take_ok (by simp)]
  dsimp only
  rw [List.take_left, List.drop_left]
theorem take_be4 (z : Int) (ys : List Int) (k : Nat) : (⟨be4 z ++ ys, k, false⟩ : Rd).take 4 = (be4 z, ⟨ys, k + 4, false⟩) := take_app _ _ _ _ rfl
theorem Bk.vals {x : Bk} (h : x.Rg) (hf : x.fit = true) : (x.lo * 16777216 + x.to % 16777216) / 16777216 = x.lo ∧ to24 (x.lo * 16777216 + x.to % 16777216) = x.to ∧ U4 (x.lo * 16777216 + x.to % 16777216) := by
  have h1 := h.lo; have h2 := h.to
  have h3 := of_decide_eq_true hf
  unfold By at h1
  refine ⟨by omega, ?_, by unfold U4; omega⟩
  unfold to24
  rw [wrap32, IntKind.wrap_i32]
  have : (x.lo * 16777216 + x.to % 16777216) * 256 % 4294967296 = x.to % 16777216 * 256 := by omega
  rw [this]
  omega
theorem blk_app {x : Bk} (h : x.Rg) (hf : x.fit = true) (ys : List Int) (k : Nat) : (⟨bkL x ++ ys, k, false⟩ : Rd).blk = (x, ⟨ys, k + 4 + 4 + 4 + 4 + 4 + 4, false⟩) := by
  obtain ⟨v1, v2, v3⟩ := Bk.vals h hf
  have e : bkL x ++ ys = be4 x.ss ++ (be4 (x.lo * 16777216 + x.to % 16777216) ++ (be4 x.hi ++ (be4 x.ji ++ (be4 x.ls ++ (be4 x.dl ++ ys))))) := by
    unfold bkL Bk.nums
    simp only [List.flatMap_cons, List.flatMap_nil, List.append_nil, List.append_assoc]
  rw [e]
  unfold Rd.blk
  simp only [take_be4]
  rw [vl_be4 _ h.ss.1 h.ss.2, vl_be4 _ v3.1 v3.2, vl_be4 _ h.hi.1 h.hi.2, vl_be4 _ h.ji.1 h.ji.2, vl_be4 _ h.ls.1 h.ls.2, vl_be4 _ h.dl.1 h.dl.2, v1, v2]
theorem blks_app : ∀ (xs : List Bk) (ys : List Int) (k : Nat), (∀ x, x ∈ xs → x.Rg) → (∀ x, x ∈ xs → x.fit = true) → ∃ k', Rd.blks xs.length ⟨xs.flatMap bkL ++ ys, k, false⟩ = (xs, ⟨ys, k', false⟩)
  | [], ys, k, _, _ => ⟨k, rfl⟩
  | x :: r, ys, k, hg, hf => by
    obtain ⟨k', h⟩ := blks_app r ys (k + 4 + 4 + 4 + 4 + 4 + 4) (fun z hz => hg z (List.mem_cons_of_mem _ hz)) (fun z hz => hf z (List.mem_cons_of_mem _ hz))
    refine ⟨k', ?_⟩
    rw [List.flatMap_cons, List.append_assoc, List.length_cons, Rd.blks, blk_app (hg x (List.mem_cons_self ..)) (hf x (List.mem_cons_self ..))]
    dsimp only
    rw [h]
theorem ofSn_put {x : Sn} (hx : x.Rg) {q : Pc} (h : sndR x = (q, 0)) : ofSn q = (x, 0) ∧ q.Right ∧ q.Rg := by
  unfold sndR at h
  split at h
  · rename_i hb
    obtain ⟨h31, hb1, hfit⟩ := blkR_ok hb
    simp only [Prod.mk.injEq, and_true] at h
    subst h
    have hsn : (rd0 ⟨(x.bl.length : Int), 200, x.nums.flatMap be4 ++ x.bl.flatMap bkL, 0⟩).sn x.bl.length = (x, ((rd0 ⟨(x.bl.length : Int), 200, x.nums.flatMap be4 ++ x.bl.flatMap bkL, 0⟩).sn x.bl.length).2) ∧ ((rd0 ⟨(x.bl.length : Int), 200, x.nums.flatMap be4 ++ x.bl.flatMap bkL, 0⟩).sn x.bl.length).2.bad = false := by
      obtain ⟨k', hk⟩ := blks_app x.bl [] (0 + 4 + 4 + 4 + 4 + 4 + 4) hx.bl hfit
      rw [List.append_nil] at hk
      have e : x.nums.flatMap be4 ++ x.bl.flatMap bkL = be4 x.ss ++ (be4 (x.nt / 4294967296) ++ (be4 (x.nt % 4294967296) ++ (be4 x.rt ++ (be4 x.pk ++ (be4 x.oc ++ x.bl.flatMap bkL))))) := by
        unfold Sn.nums
        simp only [List.flatMap_cons, List.flatMap_nil, List.append_nil, List.append_assoc]
      have g2 := hx.nt
      have hfull : (rd0 ⟨(x.bl.length : Int), 200, x.nums.flatMap be4 ++ x.bl.flatMap bkL, 0⟩).sn x.bl.length = (x, ⟨[], k', false⟩) := by
        unfold rd0 Rd.sn
        dsimp only
        rw [e]
        simp only [take_be4]
        rw [hk, vl_be4 _ hx.ss.1 hx.ss.2, vl_be4 _ (by omega) (by omega), vl_be4 _ (by omega) (by omega), vl_be4 _ hx.rt.1 hx.rt.2, vl_be4 _ hx.pk.1 hx.pk.2, vl_be4 _ hx.oc.1 hx.oc.2, show x.nt / 4294967296 * 4294967296 + x.nt % 4294967296 = x.nt from by omega]
      rw [hfull]
      exact ⟨rfl, rfl⟩
    obtain ⟨h1, h2⟩ := hsn
    have htold : toldE ⟨(x.bl.length : Int), 200, x.nums.flatMap be4 ++ x.bl.flatMap bkL, 0⟩ ((rd0 ⟨(x.bl.length : Int), 200, x.nums.flatMap be4 ++ x.bl.flatMap bkL, 0⟩).sn x.bl.length).2 200 false = 0 := by
      unfold toldE
      rw [if_neg (by simp), if_neg (by rw [h2]; simp)]
    refine ⟨?_, ?_, ?_⟩
    · unfold ofSn
      dsimp only
      rw [show ((x.bl.length : Int)).toNat = x.bl.length from rfl, htold, if_pos rfl, h1]
    · refine ⟨by dsimp only; omega, ?_, rfl, ?_⟩
      · dsimp only; rw [List.length_append, flat4_len, bkLs_len]; omega
      · dsimp only; rw [List.length_append, flat4_len, bkLs_len]; show ((4 * 6 + 24 * x.bl.length : Nat) : Int) + 0 ≤ _; omega
    · refine ⟨⟨by dsimp only; omega, by dsimp only; omega⟩, (show By 200 from ⟨by decide, by decide⟩), fun z hz => ?_, (show By 0 from ⟨by decide, by decide⟩)⟩
      dsimp only at hz
      rcases List.mem_append.1 hz with h | h
      · obtain ⟨n, _, hn⟩ := List.mem_flatMap.1 h
        exact be4_by n z hn
      · obtain ⟨b, _, hn⟩ := List.mem_flatMap.1 h
        obtain ⟨n, _, hn⟩ := List.mem_flatMap.1 hn
        exact be4_by n z hn
  · simp at h
theorem ofRc_put {ss : Int} (hs : U4 ss) {bl : List Bk} (hg : ∀ b, b ∈ bl → b.Rg) {q : Pc} (h : rcvR ss bl = (q, 0)) : ofRc q = ((ss, bl), 0) ∧ q.Right ∧ q.Rg := by
  unfold rcvR at h
  split at h
  · rename_i hb
    obtain ⟨h31, hb1, hfit⟩ := blkR_ok hb
    simp only [Prod.mk.injEq, and_true] at h
    subst h
    obtain ⟨k', hk⟩ := blks_app bl [] (0 + 4) hg hfit
    rw [List.append_nil] at hk
    have hfull : (rd0 ⟨(bl.length : Int), 201, [ss].flatMap be4 ++ bl.flatMap bkL, 0⟩).rc bl.length = ((ss, bl), ⟨[], k', false⟩) := by
      unfold rd0 Rd.rc
      dsimp only
      rw [List.flatMap_singleton]
      simp only [take_be4]
      rw [hk, vl_be4 _ hs.1 hs.2]
    refine ⟨?_, ?_, ?_⟩
    · unfold ofRc
      dsimp only
      rw [show ((bl.length : Int)).toNat = bl.length from rfl, hfull]
      rfl
    · refine ⟨by dsimp only; omega, ?_, rfl, ?_⟩
      · dsimp only; rw [List.length_append, flat4_len, bkLs_len]; simp; omega
      · dsimp only; rw [List.length_append, flat4_len, bkLs_len]; show ((4 * 1 + 24 * bl.length : Nat) : Int) + 0 ≤ _; omega
    · refine ⟨⟨by dsimp only; omega, by dsimp only; omega⟩, (show By 201 from ⟨by decide, by decide⟩), fun z hz => ?_, (show By 0 from ⟨by decide, by decide⟩)⟩
      dsimp only at hz
      rcases List.mem_append.1 hz with h | h
      · obtain ⟨n, _, hn⟩ := List.mem_flatMap.1 h
        exact be4_by n z hn
      · obtain ⟨b, _, hn⟩ := List.mem_flatMap.1 h
        obtain ⟨n, _, hn⟩ := List.mem_flatMap.1 hn
        exact be4_by n z hn
  · simp at h
/-! ### who goes -/
theorem strOfNums_sbs (s : ByteArray) : strOfNums (sbs s) = s := by
  unfold strOfNums sbs
  cases s with
  | mk d =>
    congr 1
    rw [List.map_map]
    have : (fun n : Int => UInt8.ofNat n.toNat) ∘ (fun b : UInt8 => (b.toNat : Int)) = id := by
      funext b
      simp
    rw [this, List.map_id]
theorem lgs_app : ∀ (xs : List Int) (ys : List Int) (k : Nat), (∀ x, x ∈ xs → U4 x) → Rd.lgs xs.length ⟨xs.flatMap be4 ++ ys, k, false⟩ = (xs, ⟨ys, k + 4 * xs.length, false⟩)
  | [], ys, k, _ => rfl
  | x :: r, ys, k, h => by
    have h0 := h x (List.mem_cons_self ..)
    rw [List.flatMap_cons, List.append_assoc, List.length_cons, Rd.lgs, take_be4]
    dsimp only
    rw [lgs_app r ys (k + 4) (fun z hz => h z (List.mem_cons_of_mem _ hz)), vl_be4 _ h0.1 h0.2]
    dsimp only
    rw [show k + 4 + 4 * r.length = k + 4 * (r.length + 1) from by omega]
theorem text_app (xs ys : List Int) (k : Nat) : Rd.text ⟨(xs.length : Int) :: (xs ++ ys), k, false⟩ = (xs, ⟨ys, k + 1 + xs.length, false⟩) := by
  unfold Rd.text
  have e := take_app [(xs.length : Int)] (xs ++ ys) k 1 rfl
  rw [List.singleton_append] at e
  rw [e]
  dsimp only
  rw [show ([(xs.length : Int)].getD 0 0).toNat = xs.length from rfl, take_app _ _ _ _ rfl]
theorem fill_app (ys : List Int) (k : Nat) : Rd.fill ⟨List.replicate ((4 - k % 4) % 4) 0 ++ ys, k, false⟩ = ⟨ys, k + (4 - k % 4) % 4, false⟩ := by
  unfold Rd.fill
  dsimp only
  rw [take_app _ _ _ _ (by simp)]
theorem sbs_by (s : ByteArray) : ∀ x, x ∈ sbs s → By x := fun x hx => by
  unfold sbs at hx
  obtain ⟨b, _, rfl⟩ := List.mem_map.1 hx
  have := b.toNat_lt
  unfold By; omega
theorem byeB_by {x : By'} (hm : x.re.size ≤ 255) : ∀ z, z ∈ byeB x → By z := fun z hz => by
  unfold byeB at hz
  have h4 : ∀ z, z ∈ x.so.flatMap be4 → By z := fun z h => by
    obtain ⟨n, _, hn⟩ := List.mem_flatMap.1 h
    exact be4_by n z hn
  split at hz
  · exact h4 z hz
  · unfold fil at hz
    rcases List.mem_append.1 hz with h | h
    · rcases List.mem_append.1 h with h | h
      · rcases List.mem_append.1 h with h | h
        · exact h4 z h
        · rw [List.mem_singleton.1 h]; unfold By; omega
      · exact sbs_by _ z h
    · rw [(List.mem_replicate.1 h).2]; exact ⟨by decide, by decide⟩
theorem byeB_len (x : By') : (byeB x).length % 4 = 0 ∧ (byeB x).length ≤ 4 * x.so.length + x.re.size + 4 := by
  unfold byeB
  split
  · rw [flat4_len]; omega
  · rw [fil_len]
    simp only [List.length_append, flat4_len, sbs_len, List.length_singleton]
    omega
theorem ofBy_put {x : By'} (hu : ∀ z, z ∈ x.so → U4 z) {q : Pc} (h : putBy x = (q, 0)) : ofBy q = (x, 0) ∧ q.Right ∧ q.Rg := by
  unfold putBy at h
  split at h
  · simp at h
  · rename_i hb
    simp only [Prod.mk.injEq, and_true] at h
    subst h
    have hl := byeB_len x
    have hfull : ∃ k', (rd0 ⟨(x.so.length : Int), 203, byeB x, 0⟩).bye x.so.length = (x, ⟨[], k', false⟩) := by
      unfold rd0 Rd.bye
      dsimp only
      obtain ⟨so, re⟩ := x
      unfold byeB
      dsimp only at hu ⊢
      by_cases h0 : re.size = 0
      · rw [if_pos h0]
        have := lgs_app so [] 0 hu
        rw [List.append_nil] at this
        rw [this]
        obtain rfl := nm_size0.1 h0
        exact ⟨_, rfl⟩
      · rw [if_neg h0]
        have e : fil (so.flatMap be4 ++ [(re.size : Int)] ++ sbs re) = so.flatMap be4 ++ (((sbs re).length : Int) :: (sbs re ++ (List.replicate ((4 - (0 + 4 * so.length + 1 + (sbs re).length) % 4) % 4) 0 ++ []))) := by
          unfold fil
          rw [show (so.flatMap be4 ++ [(re.size : Int)] ++ sbs re).length = 0 + 4 * so.length + 1 + (sbs re).length from by simp only [List.length_append, flat4_len, List.length_singleton]; omega, sbs_len]
          simp only [List.append_assoc, List.append_nil, List.singleton_append, List.cons_append, List.nil_append]
        rw [e, lgs_app so _ 0 hu]
        dsimp only
        rw [if_pos (by simp), text_app, strOfNums_sbs]
        dsimp only
        rw [fill_app]
        exact ⟨_, rfl⟩
    obtain ⟨k', hfull⟩ := hfull
    refine ⟨?_, ?_, ?_⟩
    · unfold ofBy
      dsimp only
      rw [show ((x.so.length : Int)).toNat = x.so.length from rfl, hfull]
      rfl
    · exact ⟨by dsimp only; omega, hl.1, rfl, by dsimp only; omega⟩
    · exact ⟨⟨by dsimp only; omega, by dsimp only; omega⟩, (show By 203 from ⟨by decide, by decide⟩), byeB_by (by omega), (show By 0 from ⟨by decide, by decide⟩)⟩
/-! ### chunks -/
def chB (x : Ck) : List Int := fil (be4 x.ss ++ (nameL x.nm ++ [0]))
theorem chB_len (x : Ck) : (chB x).length % 4 = 0 := by
  unfold chB
  rw [fil_len]; omega
theorem chA_eq (acc : List Int) (x : Ck) (h : acc.length % 4 = 0) : chA acc x = acc ++ chB x := by
  unfold chA chB fil
  rw [List.flatMap_singleton]
  have : (4 - (acc ++ be4 x.ss ++ nameL x.nm ++ [0]).length % 4) % 4 = (4 - (be4 x.ss ++ (nameL x.nm ++ [0])).length % 4) % 4 := by
    simp only [List.length_append]; omega
  rw [this]
  simp only [List.append_assoc]
theorem chunksL_from : ∀ (l : List Ck) (acc : List Int), acc.length % 4 = 0 → l.foldl chA acc = acc ++ l.flatMap chB
  | [], acc, _ => (List.append_nil _).symm
  | x :: r, acc, h => by
    rw [List.foldl_cons, chA_eq acc x h, chunksL_from r (acc ++ chB x) (by rw [List.length_append]; have := chB_len x; omega), List.flatMap_cons, List.append_assoc]
theorem chunksL_eq (l : List Ck) : chunksL l = l.flatMap chB := chunksL_from l [] rfl
theorem chunk_app {x : Ck} (hs : U4 x.ss) (hm : x.nm.size ≤ 255) (ys : List Int) (k : Nat) (hk : k % 4 = 0) : (⟨chB x ++ ys, k, false⟩ : Rd).chunk = (x, ⟨ys, k + (chB x).length, false⟩) := by
  obtain ⟨ss, nm⟩ := x
  dsimp only at hs hm
  unfold Rd.chunk Rd.itm
  have e : chB ⟨ss, nm⟩ ++ ys = be4 ss ++ (nameL nm ++ (0 :: (List.replicate ((4 - (k + 4 + (nameL nm).length + 1) % 4) % 4) 0 ++ ys))) := by
    unfold chB fil
    have : (4 - (be4 ss ++ (nameL nm ++ [0])).length % 4) % 4 = (4 - (k + 4 + (nameL nm).length + 1) % 4) % 4 := by
      simp only [List.length_append, List.length_singleton, show (be4 ss).length = 4 from rfl]; omega
    dsimp only
    rw [this]
    simp only [List.append_assoc, List.singleton_append, List.cons_append, List.nil_append]
  have el : (chB ⟨ss, nm⟩).length = 4 + (nameL nm).length + 1 + (4 - (k + 4 + (nameL nm).length + 1) % 4) % 4 := by
    unfold chB
    rw [fil_len]
    simp only [List.length_append, List.length_singleton, show (be4 ss).length = 4 from rfl]
    omega
  rw [e, take_be4, vl_be4 _ hs.1 hs.2]
  dsimp only
  have hz : ∀ (zs : List Int) (k : Nat), (⟨0 :: zs, k, false⟩ : Rd).take 1 = ([0], ⟨zs, k + 1, false⟩) := fun zs k => take_app [0] zs k 1 rfl
  by_cases h0 : nm.size = 0
  · have hn0 : nameL nm = [] := by unfold nameL; rw [if_pos h0]
    rw [hn0] at el ⊢
    rw [List.nil_append, hz]
    dsimp only
    have hi : ∀ K r, Rd.items K r (([0] : List Int).getD 0 0) false [] = ([], r) := fun K r => by
      cases K with
      | zero => rfl
      | succ K => rw [Rd.items, if_neg (fun h => h.1 rfl)]
    rw [hi]
    dsimp only
    rw [List.length_nil, Nat.add_zero, fill_app]
    obtain rfl := nm_size0.1 h0
    rw [el]
    refine Prod.ext rfl ?_
    show (⟨ys, _, false⟩ : Rd) = ⟨ys, _, false⟩
    congr 1
    simp only [List.length_nil]
    omega
  · have hnl : nameL nm = 1 :: ((sbs nm).length : Int) :: sbs nm := by unfold nameL; rw [if_neg h0, sbs_len]; rfl
    rw [hnl] at el ⊢
    rw [List.cons_append, List.cons_append]
    have h1 : ∀ (zs : List Int) (k : Nat), (⟨1 :: zs, k, false⟩ : Rd).take 1 = ([1], ⟨zs, k + 1, false⟩) := fun zs k => take_app [1] zs k 1 rfl
    rw [h1]
    dsimp only
    have hi : ∀ K r nm, Rd.items K r (([0] : List Int).getD 0 0) true nm = (nm, r) := fun K r nm => by
      cases K with
      | zero => rfl
      | succ K => rw [Rd.items, if_neg (fun h => h.1 rfl)]
    rw [Rd.items, if_pos ⟨by decide, rfl⟩, text_app]
    dsimp only
    rw [hz]
    dsimp only
    rw [show (false || decide (([1] : List Int).getD 0 0 = 1)) = true from rfl, hi, if_pos ⟨rfl, rfl⟩, strOfNums_sbs]
    dsimp only
    have hk2 : k + 4 + (1 :: ((sbs nm).length : Int) :: sbs nm).length + 1 = k + 4 + 1 + 1 + (sbs nm).length + 1 := by simp only [List.length_cons]; omega
    rw [hk2, fill_app, el, hk2]
    have : k + 4 + 1 + 1 + (sbs nm).length + 1 + (4 - (k + 4 + 1 + 1 + (sbs nm).length + 1) % 4) % 4 = k + (4 + (1 :: ((sbs nm).length : Int) :: sbs nm).length + 1 + (4 - (k + 4 + 1 + 1 + (sbs nm).length + 1) % 4) % 4) := by
      simp only [List.length_cons]; omega
    rw [this]
theorem chs_app : ∀ (xs : List Ck) (ys : List Int) (k : Nat), k % 4 = 0 → (∀ x, x ∈ xs → U4 x.ss ∧ x.nm.size ≤ 255) → ∃ k', Rd.chs xs.length ⟨xs.flatMap chB ++ ys, k, false⟩ = (xs, ⟨ys, k', false⟩)
  | [], ys, k, _, _ => ⟨k, rfl⟩
  | x :: r, ys, k, hk, h => by
    have h0 := h x (List.mem_cons_self ..)
    obtain ⟨k', h'⟩ := chs_app r ys (k + (chB x).length) (by have := chB_len x; omega) (fun z hz => h z (List.mem_cons_of_mem _ hz))
    refine ⟨k', ?_⟩
    rw [List.flatMap_cons, List.append_assoc, List.length_cons, Rd.chs, chunk_app h0.1 h0.2 _ _ hk]
    dsimp only
    rw [h']
theorem chB_by {x : Ck} (hm : x.nm.size ≤ 255) : ∀ z, z ∈ chB x → By z := fun z hz => by
  unfold chB fil at hz
  rcases List.mem_append.1 hz with h | h
  · rcases List.mem_append.1 h with h | h
    · exact be4_by _ z h
    · rcases List.mem_append.1 h with h | h
      · unfold nameL at h
        split at h
        · cases h
        · rcases List.mem_append.1 h with h | h
          · simp only [List.mem_cons, List.not_mem_nil, or_false] at h
            rcases h with rfl | rfl <;> (unfold By; omega)
          · exact sbs_by _ z h
      · rw [List.mem_singleton.1 h]; exact ⟨by decide, by decide⟩
  · rw [(List.mem_replicate.1 h).2]; exact ⟨by decide, by decide⟩
theorem chBs_len : ∀ (xs : List Ck), (∀ x, x ∈ xs → x.nm.size ≤ 255) → (xs.flatMap chB).length % 4 = 0 ∧ (xs.flatMap chB).length ≤ 300 * xs.length
  | [], _ => ⟨rfl, Nat.zero_le _⟩
  | x :: r, h => by
    obtain ⟨h1, h2⟩ := chBs_len r fun z hz => h z (List.mem_cons_of_mem _ hz)
    have h3 := chB_len x
    have h0 := nameL_len x.nm (h x (List.mem_cons_self ..))
    have h4 : (chB x).length ≤ 300 := by
      unfold chB
      rw [fil_len]
      simp only [List.length_append, List.length_singleton, show (be4 x.ss).length = 4 from rfl]
      omega
    rw [List.flatMap_cons, List.length_append, List.length_cons]
    omega
theorem ofCh_put {xs : List Ck} (hu : ∀ x, x ∈ xs → U4 x.ss) {q : Pc} (h : putCh xs = (q, 0)) : ofCh q = (xs, 0) ∧ q.Right ∧ q.Rg := by
  unfold putCh at h
  split at h
  · simp at h
  · rename_i ha
    split at h
    · simp at h
    · rename_i h31
      simp only [Prod.mk.injEq, and_true] at h
      subst h
      have hsm : ∀ x, x ∈ xs → x.nm.size ≤ 255 := fun x hx => by
        have : ¬ 255 < x.nm.size := fun hc => ha (List.any_eq_true.2 ⟨x, hx, decide_eq_true hc⟩)
        omega
      obtain ⟨k', hk⟩ := chs_app xs [] 0 rfl fun x hx => ⟨hu x hx, hsm x hx⟩
      rw [List.append_nil] at hk
      obtain ⟨l1, l2⟩ := chBs_len xs hsm
      rw [chunksL_eq]
      have hfull : (rd0 ⟨(xs.length : Int), 202, xs.flatMap chB, 0⟩).chs xs.length = (xs, ⟨[], k', false⟩) := hk
      refine ⟨?_, ?_, ?_⟩
      · unfold ofCh
        dsimp only
        rw [show ((xs.length : Int)).toNat = xs.length from rfl, hfull]
        rfl
      · exact ⟨by dsimp only; omega, l1, rfl, by dsimp only; omega⟩
      · refine ⟨⟨by dsimp only; omega, by dsimp only; omega⟩, (show By 202 from ⟨by decide, by decide⟩), fun z hz => ?_, (show By 0 from ⟨by decide, by decide⟩)⟩
        dsimp only at hz
        obtain ⟨x, hx, hn⟩ := List.mem_flatMap.1 hz
        exact chB_by (hsm x hx) z hn
end Go.Proofs.Ytohlaabclifbfaa.X
