/-
  A compound is split: walks of my own.
-/
import Derived.Test.YtohlaabclifbfaaA4
namespace Go.Proofs.Ytohlaabclifbfaa.X
open Go Go.RowKit
set_option linter.unusedVariables false
set_option linter.unusedSimpArgs false
theorem takeT_len {b0 b1 : Int} {k : Nat} {t : List Int} {f : Bool} : (takeT b0 b1 k t f).2.2.length ≤ t.length := by
  unfold takeT
  split
  · exact Nat.zero_le _
  · split
    · exact Nat.zero_le _
    · split
      · exact Nat.zero_le _
      · split
        · split <;> exact Nat.zero_le _
        · dsimp only; rw [List.length_drop]; omega
theorem takeP_len {b : List Int} {f : Bool} (h : (takeP b f).1 = 0) : (takeP b f).2.2.length + 4 ≤ b.length := by
  rcases b with _ | ⟨b0, _ | ⟨b1, _ | ⟨b2, _ | ⟨b3, t⟩⟩⟩⟩
  · cases h
  · cases h
  · cases h
  · cases h
  · have : (takeT b0 b1 (4 * vl [b2, b3]).toNat t f).2.2.length ≤ t.length := takeT_len
    show (takeT b0 b1 (4 * vl [b2, b3]).toNat t f).2.2.length + 4 ≤ t.length + 1 + 1 + 1 + 1
    omega
theorem takeT_by {b0 b1 : Int} {k : Nat} {t : List Int} {f : Bool} (h0 : By b0) (h1 : By b1) (ht : ∀ x, x ∈ t → By x) : (takeT b0 b1 k t f).2.1.Rg ∧ ∀ x, x ∈ (takeT b0 b1 k t f).2.2 → By x := by
  have hn : ∀ x, x ∈ ([] : List Int) → By x := fun x h => by cases h
  unfold takeT
  split
  · exact ⟨Pc.zero_rg, hn⟩
  · split
    · exact ⟨Pc.zero_rg, hn⟩
    · split
      · exact ⟨Pc.zero_rg, hn⟩
      · rename_i hlk
        split
        · split
          · exact ⟨Pc.zero_rg, hn⟩
          · rename_i hz
            refine ⟨⟨?_, h1, By.take ht _, ?_⟩, hn⟩
            · unfold By at *; dsimp only; omega
            · dsimp only
              rw [getD_get (by omega)]
              exact ht _ (List.getElem_mem _)
        · refine ⟨⟨?_, h1, By.take ht _, (⟨by decide, by decide⟩ : By 0)⟩, By.drop ht _⟩
          unfold By at *; dsimp only; omega
theorem takeP_by {b : List Int} {f : Bool} (hb : ∀ x, x ∈ b → By x) : (takeP b f).2.1.Rg ∧ ∀ x, x ∈ (takeP b f).2.2 → By x := by
  have hn : Pc.zero.Rg ∧ ∀ x, x ∈ ([] : List Int) → By x := ⟨Pc.zero_rg, fun x h => by cases h⟩
  rcases b with _ | ⟨b0, _ | ⟨b1, _ | ⟨b2, _ | ⟨b3, t⟩⟩⟩⟩
  · exact hn
  · exact hn
  · exact hn
  · exact hn
  · exact takeT_by (hb b0 (by simp)) (hb b1 (by simp)) fun x hx => hb x (by simp [hx])
theorem comb_err {qs : List Pc} {k : Nat} {f : Bool} {b : List Int} {e : Int} {q : Pc} {r : List Int} (ht : takeP b f = (e, q, r)) (he : e ≠ 0) (hb : ¬ (b = [] ∧ f = false)) : comb qs (splitL (k + 1) f b) = ([], e) := by
  have : splitL (k + 1) f b = ([], e) := by
    show (if b = [] ∧ f = false then ([], 0) else if (takeP b f).1 ≠ 0 then ([], (takeP b f).1) else _) = _
    rw [if_neg hb, ht, if_pos he]
  rw [this]; unfold comb; rw [if_pos he]
theorem comb_ok {qs : List Pc} {k : Nat} {f : Bool} {b : List Int} {q : Pc} {r : List Int} (ht : takeP b f = (0, q, r)) (hb : ¬ (b = [] ∧ f = false)) : comb qs (splitL (k + 1) f b) = comb (qs ++ [q]) (splitL k false r) := by
  have : splitL (k + 1) f b = if (splitL k false r).2 ≠ 0 then ([], (splitL k false r).2) else (q :: (splitL k false r).1, 0) := by
    show (if b = [] ∧ f = false then ([], 0) else if (takeP b f).1 ≠ 0 then ([], (takeP b f).1) else _) = _
    rw [if_neg hb, ht, if_neg (fun h => h rfl)]
  rw [this]; unfold comb
  by_cases h : (splitL k false r).2 ≠ 0
  · rw [if_pos h, if_pos h, if_pos h]
  · rw [if_neg h, if_neg h, if_neg (fun h => h rfl)]; simp
theorem comb_end {qs : List Pc} {k : Nat} : comb qs (splitL (k + 1) false []) = (qs, 0) := by
  show (qs ++ [], 0) = (qs, 0)
  rw [List.append_nil]
theorem splitL_err : ∀ (k : Nat) (f : Bool) (b : List Int), (splitL k f b).2 ≠ 0 → (splitL k f b).1 = []
  | 0, _, _, _ => rfl
  | k + 1, f, b, h => by
    unfold splitL at h ⊢
    split
    · rfl
    · rename_i h1
      rw [if_neg h1] at h
      split
      · rfl
      · rename_i h2
        rw [if_neg h2] at h
        split
        · rfl
        · rename_i h3
          rw [if_neg h3] at h
          exact absurd rfl h
theorem perm_mv (a b c d : List Blk) : (a ++ (b ++ (c ++ d))).Perm (b ++ (c ++ (a ++ d))) := (by classical exact List.perm_iff_count.2 fun a => by simp only [List.append_eq, List.count_append, List.count_cons, List.count_nil, List.cons_append, List.nil_append, List.flatMap_append, List.flatMap_cons, List.flatMap_nil, List.append_nil]; omega)
theorem comb_nil (k : Nat) (f : Bool) (b : List Int) : comb [] (splitL k f b) = splitL k f b := by
  unfold comb
  by_cases h : (splitL k f b).2 ≠ 0
  · rw [if_pos h, ← splitL_err k f b h]
  · have h0 : (splitL k f b).2 = 0 := by simpa using h
    rw [if_neg h, List.nil_append, ← h0]
/-- A packet in new memory. -/
structure Pb where
  q : Pc
  p : Option Addr
  c : Nat
  l : List Blk
def Pb.enc (x : Pb) : List Value := x.q.enc (.slice x.p x.q.bd.length x.c)
def Pb.Ok (x : Pb) : Prop := SlO 1 5 (.slice x.p x.q.bd.length x.c) x.q.bd.length (ints .u8 x.q.bd) x.l
def bls (xs : List Pb) : List Blk := xs.flatMap (·.l)
theorem Pb.len (x : Pb) : x.enc.length = 4 := rfl
theorem Pb.one (x : Pb) : x.enc.all (·.oneCell') = true := rfl
theorem bls_snoc (xs : List Pb) (x : Pb) : bls (xs ++ [x]) = bls xs ++ x.l := by unfold bls; rw [List.flatMap_append]; simp
theorem xf_take2 {W : World} {L : List Blk} (p : Option Addr) (m c : Nat) (bs : List Int) (f f' : Bool) (hff : f' = f) (e : Int) (q : Pc) (r : List Int) (ht : takeP bs f = (e, q, r)) (hx : bs.length = m) (hr : Rs W L p (ints .u8 bs)) (hb : ∀ x, x ∈ bs → By x) (hc : m ≤ c) (hm : m ≤ 1000000000) :
    XF Try.prog W 47 #[.slice p m c, .bool f'] L (fun v L' => ∃ x p2 c2, v = .tuple #[.agg (Pb.enc x).toArray, .slice p2 r.length c2, .int .i64 e] ∧ x.q = q ∧ x.Ok ∧ (∀ L0, Rs W L0 p (ints .u8 bs) → Rs W L0 p2 (ints .u8 r)) ∧ r.length ≤ c2 ∧ L' = x.l ++ L) := by
  subst hff
  refine (xf_take p m c bs f' hx hr hb hc hm).mono ?_
  rw [ht]
  rintro v L' ⟨p1, c1, l, p2, c2, rfl, h1, h2, h3, rfl⟩
  exact ⟨⟨q, p1, c1, l⟩, p2, c2, rfl, rfl, h1, h2, h3, rfl⟩
structure SpS where
  K : Nat
  xs : List Pb
  r : List Int
  p : Option Addr
  c : Nat
  s : Option Addr
  k : Nat
  l : List Blk
structure SpI (W : World) (L : List Blk) (bs : List Int) (z : SpS) : Prop where
  eq : splitL (bs.length + 1) true bs = comb (z.xs.map (·.q)) (splitL (z.K + 1) z.xs.isEmpty z.r)
  fu : z.r.length ≤ z.K
  le : 4 * z.xs.length + z.r.length ≤ bs.length
  rs : Rs W L z.p (ints .u8 z.r)
  by' : ∀ x, x ∈ z.r → By x
  cap : z.r.length ≤ z.c
  ok : ∀ x, x ∈ z.xs → x.Ok
  rg : ∀ x, x ∈ z.xs → x.q.Rg
  sl : SlO 4 35 (.slice z.s z.xs.length z.k) z.xs.length (z.xs.flatMap Pb.enc) z.l
/-- What Split answers. -/
def SpM (W : World) (L : List Blk) (T : TypeId) (z : List Pc × Int) (v : Value) (L' : List Blk) : Prop :=
  ∃ xs s k l, v = .tuple #[.slice s xs.length k, .int .i64 z.2] ∧ xs.map Pb.q = z.1 ∧ (∀ x, x ∈ xs → x.Ok) ∧ (∀ x, x ∈ xs → x.q.Rg) ∧ SlO 4 T (.slice s xs.length k) xs.length (xs.flatMap Pb.enc) l ∧ L' = l ++ (bls xs ++ L)
theorem SpM.err {W : World} {L : List Blk} {T : TypeId} (e : Int) : SpM W L T ([], e) (.tuple #[.slice none 0 0, .int .i64 e]) L := ⟨[], none, 0, [], rfl, rfl, (fun x h => by cases h), (fun x h => by cases h), SlO.nil, rfl⟩
set_option maxHeartbeats 4000000 in
theorem xf_split {W : World} {L : List Blk} (p : Option Addr) (m c : Nat) (bs : List Int) (hx : bs.length = m) (hr : Rs W L p (ints .u8 bs)) (hb : ∀ x, x ∈ bs → By x) (hc : m ≤ c) (hm : m ≤ 1000000) :
    XF Try.prog W 11 #[.slice p m c] L (SpM W L 35 (splitL (bs.length + 1) true bs)) := by
  refine xf_enter (args := [_]) Try.func11 rfl Try.ntmps11 rfl ?_
  focus
    refine xc_seq ?_
    refine xc_region ?_
    refine xo_rd (rd_assign rfl) rfl ?_
    refine xo_rd (rd_assign rfl) rfl ?_
    refine xo_nil ?_
    refine xq_seq ?_
    refine xc_seq ?_
    refine xc_region ?_
    refine xo_rd (rd_assign rfl) rfl ?_
    refine xo_nil ?_
    refine xq_seq ?_
  refine xc_seq (xc_block ?_)
  refine xc_loopI (ι := SpS) (SpI W L bs) (fun z => z.r.length) (fun z => z.l ++ (bls z.xs ++ L)) (fun z => [(0, .slice z.p z.r.length z.c), (4, .slice z.s z.xs.length z.k)]) ⟨m, [], bs, p, c, none, 0, []⟩ ⟨by dsimp only; rw [hx]; exact (comb_nil _ _ _).symm, by dsimp only; omega, by simp, hr, hb, by dsimp only; omega, (fun x h => by cases h), (fun x h => by cases h), SlO.nil⟩ rfl ?_ ?_
  · dsimp only
    rw [hx]
    exact (by repeat (first | exact keep_nil | refine keep_cons rfl ?_))
  · rintro ⟨K, xs, r, p, c, s, k, l⟩ ⟨heq, hfu, hle, hrs, hby, hcap, hok, hrg, hsl⟩
    dsimp only at heq hfu hle hrs hby hcap hok hrg hsl ⊢
    obtain ⟨f, hf⟩ : ∃ f, xs.isEmpty = f := ⟨_, rfl⟩
    have hf2 : decide ((xs.length : Int) = 0) = f := by
      rw [← hf]
      cases xs with
      | nil => rfl
      | cons a t => exact decide_eq_false (by simp; omega)
    obtain ⟨⟨e, q, r'⟩, ht⟩ : ∃ z, takeP r f = z := ⟨_, rfl⟩
    have herr : ¬ (r = [] ∧ f = false) → e ≠ 0 → splitL (bs.length + 1) true bs = ([], e) := fun h1 h2 => by rw [heq, hf]; exact comb_err ht h2 h1
    have hend : r = [] → f = false → splitL (bs.length + 1) true bs = (xs.map Pb.q, 0) := fun h1 h2 => by rw [heq, hf, h1, h2]; exact comb_end
    have htl := takeP_len (b := r) (f := f)
    have htb := takeP_by (b := r) (f := f) hby
    rw [ht] at htl htb
    dsimp only at htl htb
    focus
      refine xc_seq ?_
      refine xc_seq ?_
      refine xc_region ?_
      refine xo_rd (rd_move rfl) rfl ?_
      refine xo_rd (rd_len rfl) rfl ?_
      refine xo_rd (rd_gtr rfl rfl) rfl ?_
      refine xo_rd (rd_move rfl) rfl ?_
      refine xo_dec 11 rfl (fun hq1 => ?_) (fun hq1 => ?_)
      refine xo_gskip rfl rfl rfl rfl ?_
      refine xo_gskip rfl rfl rfl rfl ?_
      refine xo_gskip rfl rfl rfl rfl ?_
      refine xo_rd (rd_pickt rfl rfl) rfl ?_
      refine xo_nil ?_
      refine xq_seq ?_
      refine xc_condt rfl ?_
      refine xc_skip ?_
      refine xq_seq ?_
      refine xc_block ?_
      refine xc_seq ?_
      refine xc_region ?_
      refine xo_rd (rd_move rfl) rfl ?_
      refine xo_rd (rd_move rfl) rfl ?_
      refine xo_rd (rd_len rfl) rfl ?_
      refine xo_rd (rd_eql rfl rfl) rfl ?_
      refine xo_ef rfl (ef_call rfl (XF.mono (xf_take2 p r.length c r f _ hf2 e q r' ht rfl (hrs.mono (by intro z hz; simp [hz])) hby hcap (by omega)) ?_))
      rintro v L' ⟨x, p2, c2, rfl, hxq, hxo, hr2, hc2, rfl⟩
      refine xo_perm (perm_mv x.l l (bls xs) L) ?_
      refine xo_rd (rd_move rfl) rfl ?_
      refine xo_rd (rd_extract rfl rfl) rfl ?_
      refine xo_rd (rd_extract rfl rfl) rfl ?_
      refine xo_rd (rd_extract rfl rfl) rfl ?_
      refine xo_ef rfl (ef_alloc fun r5 => ?_)
      refine xo_ef rfl (ef_storeB [] _ rfl rfl (by first | rfl | assumption) rfl rfl rfl ?_)
      refine xo_rd (rd_assign rfl) rfl ?_
      refine xo_rd (rd_assign rfl) rfl ?_
      refine xo_nil ?_
      refine xq_seq ?_
      refine xc_seq ?_
      refine xc_seq ?_
      refine xc_region ?_
      refine xo_rd (rd_move rfl) rfl ?_
      refine xo_rd (rd_neq rfl rfl) rfl ?_
      refine xo_nil ?_
      refine xq_seq ?_
      refine xc_ndec rfl (fun hq2 => ?_) (fun hq2 => ?_)
      refine xc_seq ?_
      refine xc_region ?_
      refine xo_rd (rd_move rfl) rfl ?_
      refine xo_rd (rd_assign rfl) rfl ?_
      refine xo_rd (rd_assign rfl) rfl ?_
      refine xo_nil ?_
      refine xq_seq ?_
      refine xc_ret ?_
      refine xq_then_ret ?_
      refine xq_block_ret ?_
      refine xq_then_ret ?_
      refine xq_block_ret ?_
      refine xq_then_ret ?_
      rotate_left
      refine xc_skip ?_
      refine xq_seq ?_
      refine xc_region ?_
      refine xo_rd (rd_move rfl) rfl ?_
      refine xo_rd (rd_loadB rfl Kn.o0 (by rfl)) rfl ?_
      refine xo_ef rfl (ef_sliceA (vs := x.enc) rfl rfl (by rw [Pb.len]; decide) (by rw [Pb.len]; decide) fun r30 => ?_)
      refine xo_ef rfl (ef_appendS [_, _] (bls xs ++ (x.l ++ L)) l (news := x.enc) rfl rfl hsl rfl (Rs.fresh (List.Mem.head _)) rfl rfl (by decide) (by omega) (by omega) fun s' k' l' hO' hk' => ?_)
      refine xo_rd (rd_move rfl) rfl ?_
      refine xo_rd (rd_assign rfl) rfl ?_
      refine xo_rd (rd_assign rfl) rfl ?_
      refine xo_nil ?_
      refine xq_block ?_
      rotate_left
      refine xo_grd rfl rfl (rd_move rfl) rfl ?_
      refine xo_grd rfl rfl (rd_len rfl) rfl ?_
      refine xo_grd rfl rfl (rd_eql rfl rfl) rfl ?_
      refine xo_rd (rd_pickf rfl rfl) rfl ?_
      refine xo_nil ?_
      refine xq_seq ?_
      refine xc_dec rfl (fun hq3 => ?_) (fun hq3 => ?_)
      refine xc_skip ?_
      refine xq_seq ?_
      refine xc_block ?_
      refine xc_seq ?_
      refine xc_region ?_
      refine xo_rd (rd_move rfl) rfl ?_
      refine xo_rd (rd_move rfl) rfl ?_
      refine xo_rd (rd_len rfl) rfl ?_
      refine xo_rd (rd_eql rfl rfl) rfl ?_
      refine xo_ef rfl (ef_call rfl (XF.mono (xf_take2 p r.length c r f _ hf2 e q r' ht rfl (hrs.mono (by intro z hz; simp [hz])) hby hcap (by omega)) ?_))
      rintro v L' ⟨x, p2, c2, rfl, hxq, hxo, hr2, hc2, rfl⟩
      refine xo_perm (perm_mv x.l l (bls xs) L) ?_
      refine xo_rd (rd_move rfl) rfl ?_
      refine xo_rd (rd_extract rfl rfl) rfl ?_
      refine xo_rd (rd_extract rfl rfl) rfl ?_
      refine xo_rd (rd_extract rfl rfl) rfl ?_
      refine xo_ef rfl (ef_alloc fun r5 => ?_)
      refine xo_ef rfl (ef_storeB [] _ rfl rfl (by first | rfl | assumption) rfl rfl rfl ?_)
      refine xo_rd (rd_assign rfl) rfl ?_
      refine xo_rd (rd_assign rfl) rfl ?_
      refine xo_nil ?_
      refine xq_seq ?_
      refine xc_seq ?_
      refine xc_seq ?_
      refine xc_region ?_
      refine xo_rd (rd_move rfl) rfl ?_
      refine xo_rd (rd_neq rfl rfl) rfl ?_
      refine xo_nil ?_
      refine xq_seq ?_
      refine xc_ndec rfl (fun hq4 => ?_) (fun hq4 => (by exfalso; omega))
      refine xc_seq ?_
      refine xc_region ?_
      refine xo_rd (rd_move rfl) rfl ?_
      refine xo_rd (rd_assign rfl) rfl ?_
      refine xo_rd (rd_assign rfl) rfl ?_
      refine xo_nil ?_
      refine xq_seq ?_
      refine xc_ret ?_
      refine xq_then_ret ?_
      refine xq_block_ret ?_
      refine xq_then_ret ?_
      refine xq_block_ret ?_
      refine xq_then_ret ?_
      rotate_left
      refine xc_exit ?_
      refine xq_then_exit ?_
      refine xq_then_exit ?_
      refine xq_block_hit ?_
      refine xq_seq ?_
      refine xc_seq ?_
      refine xc_region ?_
      refine xo_rd (rd_move rfl) rfl ?_
      refine xo_rd (rd_assign rfl) rfl ?_
      refine xo_rd (rd_assign rfl) rfl ?_
      refine xo_nil ?_
      refine xq_seq ?_
      refine xc_ret ?_
      rotate_left
    · rw [herr (fun h => by rw [h.1] at hq1; exact absurd hq1 (by decide)) hq2]
      exact xq_sub ((List.sublist_append_right x.l L).trans ((List.sublist_append_right (bls xs) _).trans ((List.sublist_append_right l _).trans (List.sublist_cons_self _ _)))) (xq_ret2 (.inl rfl) Try.results11 rfl rfl (SpM.err e))
    · have hrl := htl hq2
      subst hq2
      obtain ⟨K', rfl⟩ : ∃ K', K = K' + 1 := ⟨K - 1, by omega⟩
      have hne : ¬ (r = [] ∧ f = false) := fun h => by rw [h.1] at hq1; exact absurd hq1 (by decide)
      have hl : (xs ++ [x]).length = xs.length + 1 := by simp
      refine xq_sub (List.sublist_append_right [_, _] _) (xq_roundI (⟨K', xs ++ [x], r', p2, c2, s', k', l'⟩ : SpS) ⟨?_, by dsimp only; omega, by dsimp only; rw [hl]; omega, hr2 _ hrs, htb.2, hc2, ?_, ?_, ?_⟩ (by dsimp only; omega) ?_ ?_)
      · dsimp only
        rw [heq, hf, comb_ok ht hne, List.map_append, List.map_singleton, hxq, show (xs ++ [x]).isEmpty = false from by cases xs <;> rfl]
      · intro z hz
        rcases List.mem_append.1 hz with h | h
        · exact hok z h
        · rw [List.mem_singleton.1 h]; exact hxo
      · intro z hz
        rcases List.mem_append.1 hz with h | h
        · exact hrg z h
        · rw [List.mem_singleton.1 h, hxq]; exact htb.1
      · dsimp only
        rw [hl, List.flatMap_append, List.flatMap_singleton]; exact hO'
      · dsimp only
        rw [bls_snoc, List.append_assoc]
      · dsimp only
        rw [hl]
        exact (by repeat (first | exact keep_nil | refine keep_cons rfl ?_))
    · rw [herr (fun h => by rw [← hf2, decide_eq_true hq3] at h; exact absurd h.2 (by decide)) (fun h => by have := htl h; omega)]
      exact xq_sub ((List.sublist_append_right x.l L).trans ((List.sublist_append_right (bls xs) _).trans ((List.sublist_append_right l _).trans (List.sublist_cons_self _ _)))) (xq_ret2 (.inl rfl) Try.results11 rfl rfl (SpM.err e))
    · rw [hend (List.length_eq_zero_iff.1 (by omega)) (by rw [← hf2]; exact decide_eq_false hq3)]
      exact xq_ret2 (.inl rfl) Try.results11 rfl rfl ⟨xs, s, k, l, rfl, rfl, hok, hrg, hsl, rfl⟩
end Go.Proofs.Ytohlaabclifbfaa.X
