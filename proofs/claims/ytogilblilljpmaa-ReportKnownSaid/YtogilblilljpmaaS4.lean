/-
  Texts of my own, put together: walks and laws for this seat. No condition.
-/
import Derived.Test.YtogilblilljpmaaS3
import Derived.Test.YtogilblilljpmaaS2
/-
  A compound is split: walks of my own.
-/
namespace Go.Proofs.Ytogilblilljpmaa.X
open Go Go.RowKit
set_option linter.unusedVariables false
set_option linter.unusedSimpArgs false
theorem takeT_len {b0 b1 : Int} {k : Nat} {t : List Int} {f : Bool} : (takeT b0 b1 k t f).2.2.length ≤ t.length := by
  unfold takeT
  split
  · exact Nat.zero_le _
  · split
    · exact Nat.zero_le _
    · split
      · exact Nat.zero_le _
      · split
        · split <;> exact Nat.zero_le _
        · dsimp only; rw [List.length_drop]; omega
theorem takeP_len {b : List Int} {f : Bool} (h : (takeP b f).1 = 0) : (takeP b f).2.2.length + 4 ≤ b.length := by
  rcases b with _ | ⟨b0, _ | ⟨b1, _ | ⟨b2, _ | ⟨b3, t⟩⟩⟩⟩
  · cases h
  · cases h
  · cases h
  · cases h
  · have : (takeT b0 b1 (4 * vl [b2, b3]).toNat t f).2.2.length ≤ t.length := takeT_len
    show (takeT b0 b1 (4 * vl [b2, b3]).toNat t f).2.2.length + 4 ≤ t.length + 1 + 1 + 1 + 1
    omega
theorem takeT_by {b0 b1 : Int} {k : Nat} {t : List Int} {f : Bool} (h0 : By b0) (h1 : By b1) (ht : ∀ x, x ∈ t → By x) : (takeT b0 b1 k t f).2.1.Rg ∧ ∀ x, x ∈ (takeT b0 b1 k t f).2.2 → By x := by
  have hn : ∀ x, x ∈ ([] : List Int) → By x := fun x h => by cases h
  unfold takeT
  split
  · exact ⟨Pc.zero_rg, hn⟩
  · split
    · exact ⟨Pc.zero_rg, hn⟩
    · split
      · exact ⟨Pc.zero_rg, hn⟩
      · rename_i hlk
        split
        · split
          · exact ⟨Pc.zero_rg, hn⟩
          · rename_i hz
            refine ⟨⟨?_, h1, By.take ht _, ?_⟩, hn⟩
            · unfold By at *; dsimp only; omega
            · dsimp only
              rw [getD_get (by omega)]
              exact ht _ (List.getElem_mem _)
        · refine ⟨⟨?_, h1, By.take ht _, (⟨by decide, by decide⟩ : By 0)⟩, By.drop ht _⟩
          unfold By at *; dsimp only; omega
theorem takeP_by {b : List Int} {f : Bool} (hb : ∀ x, x ∈ b → By x) : (takeP b f).2.1.Rg ∧ ∀ x, x ∈ (takeP b f).2.2 → By x := by
  have hn : Pc.zero.Rg ∧ ∀ x, x ∈ ([] : List Int) → By x := ⟨Pc.zero_rg, fun x h => by cases h⟩
  rcases b with _ | ⟨b0, _ | ⟨b1, _ | ⟨b2, _ | ⟨b3, t⟩⟩⟩⟩
  · exact hn
  · exact hn
  · exact hn
  · exact hn
  · exact takeT_by (hb b0 (by simp)) (hb b1 (by simp)) fun x hx => hb x (by simp [hx])
theorem comb_err {qs : List Pc} {k : Nat} {f : Bool} {b : List Int} {e : Int} {q : Pc} {r : List Int} (ht : takeP b f = (e, q, r)) (he : e ≠ 0) (hb : ¬ (b = [] ∧ f = false)) : comb qs (splitL (k + 1) f b) = ([], e) := by
  have : splitL (k + 1) f b = ([], e) := by
    show (if b = [] ∧ f = false then ([], 0) else if (takeP b f).1 ≠ 0 then ([], (takeP b f).1) else _) = _
    rw [if_neg hb, ht, if_pos he]
  rw [this]; unfold comb; rw [if_pos he]
theorem comb_ok {qs : List Pc} {k : Nat} {f : Bool} {b : List Int} {q : Pc} {r : List Int} (ht : takeP b f = (0, q, r)) (hb : ¬ (b = [] ∧ f = false)) : comb qs (splitL (k + 1) f b) = comb (qs ++ [q]) (splitL k false r) := by
  have : splitL (k + 1) f b = if (splitL k false r).2 ≠ 0 then ([], (splitL k false r).2) else (q :: (splitL k false r).1, 0) := by
    show (if b = [] ∧ f = false then ([], 0) else if (takeP b f).1 ≠ 0 then ([], (takeP b f).1) else _) = _
    rw [if_neg hb, ht, if_neg (fun h => h rfl)]
  rw [this]; unfold comb
  by_cases h : (splitL k false r).2 ≠ 0
  · rw [if_pos h, if_pos h, if_pos h]
  · rw [if_neg h, if_neg h, if_neg (fun h => h rfl)]; simp
theorem comb_end {qs : List Pc} {k : Nat} : comb qs (splitL (k + 1) false []) = (qs, 0) := by
  show (qs ++ [], 0) = (qs, 0)
  rw [List.append_nil]
theorem splitL_err : ∀ (k : Nat) (f : Bool) (b : List Int), (splitL k f b).2 ≠ 0 → (splitL k f b).1 = []
  | 0, _, _, _ => rfl
  | k + 1, f, b, h => by
    unfold splitL at h ⊢
    split
    · rfl
    · rename_i h1
      rw [if_neg h1] at h
      split
      · rfl
      · rename_i h2
        rw [if_neg h2] at h
        split
        · rfl
        · rename_i h3
          rw [if_neg h3] at h
          exact absurd rfl h
theorem perm_mv (a b c d : List Blk) : (a ++ (b ++ (c ++ d))).Perm (b ++ (c ++ (a ++ d))) := (by classical exact List.perm_iff_count.2 fun a => by simp only [List.append_eq, List.count_append, List.count_cons, List.count_nil, List.cons_append, List.nil_append, List.flatMap_append, List.flatMap_cons, List.flatMap_nil, List.append_nil]; omega)
theorem comb_nil (k : Nat) (f : Bool) (b : List Int) : comb [] (splitL k f b) = splitL k f b := by
  unfold comb
  by_cases h : (splitL k f b).2 ≠ 0
  · rw [if_pos h, ← splitL_err k f b h]
  · have h0 : (splitL k f b).2 = 0 := by simpa using h
    rw [if_neg h, List.nil_append, ← h0]
/-- A packet in new memory. -/
structure Pb where
  q : Pc
  p : Option Addr
  c : Nat
  l : List Blk
def Pb.enc (x : Pb) : List Value := x.q.enc (.slice x.p x.q.bd.length x.c)
def Pb.Ok (x : Pb) : Prop := SlO 1 5 (.slice x.p x.q.bd.length x.c) x.q.bd.length (ints .u8 x.q.bd) x.l
def bls (xs : List Pb) : List Blk := xs.flatMap (·.l)
theorem Pb.len (x : Pb) : x.enc.length = 4 := rfl
theorem Pb.one (x : Pb) : x.enc.all (·.oneCell') = true := rfl
theorem bls_snoc (xs : List Pb) (x : Pb) : bls (xs ++ [x]) = bls xs ++ x.l := by unfold bls; rw [List.flatMap_append]; simp
theorem xf_take2 {W : World} {L : List Blk} (p : Option Addr) (m c : Nat) (bs : List Int) (f f' : Bool) (hff : f' = f) (e : Int) (q : Pc) (r : List Int) (ht : takeP bs f = (e, q, r)) (hx : bs.length = m) (hr : Rs W L p (ints .u8 bs)) (hb : ∀ x, x ∈ bs → By x) (hc : m ≤ c) (hm : m ≤ 1000000000) :
    XF Try.prog W 54 #[.slice p m c, .bool f'] L (fun v L' => ∃ x p2 c2, v = .tuple #[.agg (Pb.enc x).toArray, .slice p2 r.length c2, .int .i64 e] ∧ x.q = q ∧ x.Ok ∧ (∀ L0, Rs W L0 p (ints .u8 bs) → Rs W L0 p2 (ints .u8 r)) ∧ r.length ≤ c2 ∧ L' = x.l ++ L) := by
  subst hff
  refine (xf_take p m c bs f' hx hr hb hc hm).mono ?_
  rw [ht]
  rintro v L' ⟨p1, c1, l, p2, c2, rfl, h1, h2, h3, rfl⟩
  exact ⟨⟨q, p1, c1, l⟩, p2, c2, rfl, rfl, h1, h2, h3, rfl⟩
structure SpS where
  K : Nat
  xs : List Pb
  r : List Int
  p : Option Addr
  c : Nat
  s : Option Addr
  k : Nat
  l : List Blk
structure SpI (W : World) (L : List Blk) (bs : List Int) (z : SpS) : Prop where
  eq : splitL (bs.length + 1) true bs = comb (z.xs.map (·.q)) (splitL (z.K + 1) z.xs.isEmpty z.r)
  fu : z.r.length ≤ z.K
  le : 4 * z.xs.length + z.r.length ≤ bs.length
  rs : Rs W L z.p (ints .u8 z.r)
  by' : ∀ x, x ∈ z.r → By x
  cap : z.r.length ≤ z.c
  ok : ∀ x, x ∈ z.xs → x.Ok
  rg : ∀ x, x ∈ z.xs → x.q.Rg
  sl : SlO 4 81 (.slice z.s z.xs.length z.k) z.xs.length (z.xs.flatMap Pb.enc) z.l
/-- What Split answers. -/
def SpM (W : World) (L : List Blk) (T : TypeId) (z : List Pc × Int) (v : Value) (L' : List Blk) : Prop :=
  ∃ xs s k l, v = .tuple #[.slice s xs.length k, .int .i64 z.2] ∧ xs.map Pb.q = z.1 ∧ (∀ x, x ∈ xs → x.Ok) ∧ (∀ x, x ∈ xs → x.q.Rg) ∧ SlO 4 T (.slice s xs.length k) xs.length (xs.flatMap Pb.enc) l ∧ L' = l ++ (bls xs ++ L)
theorem SpM.err {W : World} {L : List Blk} {T : TypeId} (e : Int) : SpM W L T ([], e) (.tuple #[.slice none 0 0, .int .i64 e]) L := ⟨[], none, 0, [], rfl, rfl, (fun x h => by cases h), (fun x h => by cases h), SlO.nil, rfl⟩
set_option maxHeartbeats 4000000 in
theorem xf_split {W : World} {L : List Blk} (p : Option Addr) (m c : Nat) (bs : List Int) (hx : bs.length = m) (hr : Rs W L p (ints .u8 bs)) (hb : ∀ x, x ∈ bs → By x) (hc : m ≤ c) (hm : m ≤ 1000000) :
    XF Try.prog W 33 #[.slice p m c] L (SpM W L 81 (splitL (bs.length + 1) true bs)) := by
  refine xf_enter (args := [_]) Try.func33 rfl Try.ntmps33 rfl ?_
  focus
    refine xc_seq ?_
    refine xc_region ?_
    refine xo_rd (rd_assign rfl) rfl ?_
    refine xo_rd (rd_assign rfl) rfl ?_
    refine xo_nil ?_
    refine xq_seq ?_
    refine xc_seq ?_
    refine xc_region ?_
    refine xo_rd (rd_assign rfl) rfl ?_
    refine xo_nil ?_
    refine xq_seq ?_
  refine xc_seq (xc_block ?_)
  refine xc_loopI (ι := SpS) (SpI W L bs) (fun z => z.r.length) (fun z => z.l ++ (bls z.xs ++ L)) (fun z => [(0, .slice z.p z.r.length z.c), (4, .slice z.s z.xs.length z.k)]) ⟨m, [], bs, p, c, none, 0, []⟩ ⟨by dsimp only; rw [hx]; exact (comb_nil _ _ _).symm, by dsimp only; omega, by simp, hr, hb, by dsimp only; omega, (fun x h => by cases h), (fun x h => by cases h), SlO.nil⟩ rfl ?_ ?_
  · dsimp only
    rw [hx]
    exact (by repeat (first | exact keep_nil | refine keep_cons rfl ?_))
  · rintro ⟨K, xs, r, p, c, s, k, l⟩ ⟨heq, hfu, hle, hrs, hby, hcap, hok, hrg, hsl⟩
    dsimp only at heq hfu hle hrs hby hcap hok hrg hsl ⊢
    obtain ⟨f, hf⟩ : ∃ f, xs.isEmpty = f := ⟨_, rfl⟩
    have hf2 : decide ((xs.length : Int) = 0) = f := by
      rw [← hf]
      cases xs with
      | nil => rfl
      | cons a t => exact decide_eq_false (by simp; omega)
    obtain ⟨⟨e, q, r'⟩, ht⟩ : ∃ z, takeP r f = z := ⟨_, rfl⟩
    have herr : ¬ (r = [] ∧ f = false) → e ≠ 0 → splitL (bs.length + 1) true bs = ([], e) := fun h1 h2 => by rw [heq, hf]; exact comb_err ht h2 h1
    have hend : r = [] → f = false → splitL (bs.length + 1) true bs = (xs.map Pb.q, 0) := fun h1 h2 => by rw [heq, hf, h1, h2]; exact comb_end
    have htl := takeP_len (b := r) (f := f)
    have htb := takeP_by (b := r) (f := f) hby
    rw [ht] at htl htb
    dsimp only at htl htb
    focus
      refine xc_seq ?_
      refine xc_seq ?_
      refine xc_region ?_
      refine xo_rd (rd_move rfl) rfl ?_
      refine xo_rd (rd_len rfl) rfl ?_
      refine xo_rd (rd_gtr rfl rfl) rfl ?_
      refine xo_rd (rd_move rfl) rfl ?_
      refine xo_dec 11 rfl (fun hq1 => ?_) (fun hq1 => ?_)
      refine xo_gskip rfl rfl rfl rfl ?_
      refine xo_gskip rfl rfl rfl rfl ?_
      refine xo_gskip rfl rfl rfl rfl ?_
      refine xo_rd (rd_pickt rfl rfl) rfl ?_
      refine xo_nil ?_
      refine xq_seq ?_
      refine xc_condt rfl ?_
      refine xc_skip ?_
      refine xq_seq ?_
      refine xc_block ?_
      refine xc_seq ?_
      refine xc_region ?_
      refine xo_rd (rd_move rfl) rfl ?_
      refine xo_rd (rd_move rfl) rfl ?_
      refine xo_rd (rd_len rfl) rfl ?_
      refine xo_rd (rd_eql rfl rfl) rfl ?_
      refine xo_ef rfl (ef_call rfl (XF.mono (xf_take2 p r.length c r f _ hf2 e q r' ht rfl (hrs.mono (by intro z hz; simp [hz])) hby hcap (by omega)) ?_))
      rintro v L' ⟨x, p2, c2, rfl, hxq, hxo, hr2, hc2, rfl⟩
      refine xo_perm (perm_mv x.l l (bls xs) L) ?_
      refine xo_rd (rd_move rfl) rfl ?_
      refine xo_rd (rd_extract rfl rfl) rfl ?_
      refine xo_rd (rd_extract rfl rfl) rfl ?_
      refine xo_rd (rd_extract rfl rfl) rfl ?_
      refine xo_ef rfl (ef_alloc fun r5 => ?_)
      refine xo_ef rfl (ef_storeB [] _ rfl rfl (by first | rfl | assumption) rfl rfl rfl ?_)
      refine xo_rd (rd_assign rfl) rfl ?_
      refine xo_rd (rd_assign rfl) rfl ?_
      refine xo_nil ?_
      refine xq_seq ?_
      refine xc_seq ?_
      refine xc_seq ?_
      refine xc_region ?_
      refine xo_rd (rd_move rfl) rfl ?_
      refine xo_rd (rd_neq rfl rfl) rfl ?_
      refine xo_nil ?_
      refine xq_seq ?_
      refine xc_ndec rfl (fun hq2 => ?_) (fun hq2 => ?_)
      refine xc_seq ?_
      refine xc_region ?_
      refine xo_rd (rd_move rfl) rfl ?_
      refine xo_rd (rd_assign rfl) rfl ?_
      refine xo_rd (rd_assign rfl) rfl ?_
      refine xo_nil ?_
      refine xq_seq ?_
      refine xc_ret ?_
      refine xq_then_ret ?_
      refine xq_block_ret ?_
      refine xq_then_ret ?_
      refine xq_block_ret ?_
      refine xq_then_ret ?_
      rotate_left
      refine xc_skip ?_
      refine xq_seq ?_
      refine xc_region ?_
      refine xo_rd (rd_move rfl) rfl ?_
      refine xo_rd (rd_loadB rfl Kn.o0 (by rfl)) rfl ?_
      refine xo_ef rfl (ef_sliceA (vs := x.enc) rfl rfl (by rw [Pb.len]; decide) (by rw [Pb.len]; decide) fun r30 => ?_)
      refine xo_ef rfl (ef_appendS [_, _] (bls xs ++ (x.l ++ L)) l (news := x.enc) rfl rfl hsl rfl (Rs.fresh (List.Mem.head _)) rfl rfl (by decide) (by omega) (by omega) fun s' k' l' hO' hk' => ?_)
      refine xo_rd (rd_move rfl) rfl ?_
      refine xo_rd (rd_assign rfl) rfl ?_
      refine xo_rd (rd_assign rfl) rfl ?_
      refine xo_nil ?_
      refine xq_block ?_
      rotate_left
      refine xo_grd rfl rfl (rd_move rfl) rfl ?_
      refine xo_grd rfl rfl (rd_len rfl) rfl ?_
      refine xo_grd rfl rfl (rd_eql rfl rfl) rfl ?_
      refine xo_rd (rd_pickf rfl rfl) rfl ?_
      refine xo_nil ?_
      refine xq_seq ?_
      refine xc_dec rfl (fun hq3 => ?_) (fun hq3 => ?_)
      refine xc_skip ?_
      refine xq_seq ?_
      refine xc_block ?_
      refine xc_seq ?_
      refine xc_region ?_
      refine xo_rd (rd_move rfl) rfl ?_
      refine xo_rd (rd_move rfl) rfl ?_
      refine xo_rd (rd_len rfl) rfl ?_
      refine xo_rd (rd_eql rfl rfl) rfl ?_
      refine xo_ef rfl (ef_call rfl (XF.mono (xf_take2 p r.length c r f _ hf2 e q r' ht rfl (hrs.mono (by intro z hz; simp [hz])) hby hcap (by omega)) ?_))
      rintro v L' ⟨x, p2, c2, rfl, hxq, hxo, hr2, hc2, rfl⟩
      refine xo_perm (perm_mv x.l l (bls xs) L) ?_
      refine xo_rd (rd_move rfl) rfl ?_
      refine xo_rd (rd_extract rfl rfl) rfl ?_
      refine xo_rd (rd_extract rfl rfl) rfl ?_
      refine xo_rd (rd_extract rfl rfl) rfl ?_
      refine xo_ef rfl (ef_alloc fun r5 => ?_)
      refine xo_ef rfl (ef_storeB [] _ rfl rfl (by first | rfl | assumption) rfl rfl rfl ?_)
      refine xo_rd (rd_assign rfl) rfl ?_
      refine xo_rd (rd_assign rfl) rfl ?_
      refine xo_nil ?_
      refine xq_seq ?_
      refine xc_seq ?_
      refine xc_seq ?_
      refine xc_region ?_
      refine xo_rd (rd_move rfl) rfl ?_
      refine xo_rd (rd_neq rfl rfl) rfl ?_
      refine xo_nil ?_
      refine xq_seq ?_
      refine xc_ndec rfl (fun hq4 => ?_) (fun hq4 => (by exfalso; omega))
      refine xc_seq ?_
      refine xc_region ?_
      refine xo_rd (rd_move rfl) rfl ?_
      refine xo_rd (rd_assign rfl) rfl ?_
      refine xo_rd (rd_assign rfl) rfl ?_
      refine xo_nil ?_
      refine xq_seq ?_
      refine xc_ret ?_
      refine xq_then_ret ?_
      refine xq_block_ret ?_
      refine xq_then_ret ?_
      refine xq_block_ret ?_
      refine xq_then_ret ?_
      rotate_left
      refine xc_exit ?_
      refine xq_then_exit ?_
      refine xq_then_exit ?_
      refine xq_block_hit ?_
      refine xq_seq ?_
      refine xc_seq ?_
      refine xc_region ?_
      refine xo_rd (rd_move rfl) rfl ?_
      refine xo_rd (rd_assign rfl) rfl ?_
      refine xo_rd (rd_assign rfl) rfl ?_
      refine xo_nil ?_
      refine xq_seq ?_
      refine xc_ret ?_
      rotate_left
    · rw [herr (fun h => by rw [h.1] at hq1; exact absurd hq1 (by decide)) hq2]
      exact xq_sub ((List.sublist_append_right x.l L).trans ((List.sublist_append_right (bls xs) _).trans ((List.sublist_append_right l _).trans (List.sublist_cons_self _ _)))) (xq_ret2 (.inl rfl) Try.results33 rfl rfl (SpM.err e))
    · have hrl := htl hq2
      subst hq2
      obtain ⟨K', rfl⟩ : ∃ K', K = K' + 1 := ⟨K - 1, by omega⟩
      have hne : ¬ (r = [] ∧ f = false) := fun h => by rw [h.1] at hq1; exact absurd hq1 (by decide)
      have hl : (xs ++ [x]).length = xs.length + 1 := by simp
      refine xq_sub (List.sublist_append_right [_, _] _) (xq_roundI (⟨K', xs ++ [x], r', p2, c2, s', k', l'⟩ : SpS) ⟨?_, by dsimp only; omega, by dsimp only; rw [hl]; omega, hr2 _ hrs, htb.2, hc2, ?_, ?_, ?_⟩ (by dsimp only; omega) ?_ ?_)
      · dsimp only
        rw [heq, hf, comb_ok ht hne, List.map_append, List.map_singleton, hxq, show (xs ++ [x]).isEmpty = false from by cases xs <;> rfl]
      · intro z hz
        rcases List.mem_append.1 hz with h | h
        · exact hok z h
        · rw [List.mem_singleton.1 h]; exact hxo
      · intro z hz
        rcases List.mem_append.1 hz with h | h
        · exact hrg z h
        · rw [List.mem_singleton.1 h, hxq]; exact htb.1
      · dsimp only
        rw [hl, List.flatMap_append, List.flatMap_singleton]; exact hO'
      · dsimp only
        rw [bls_snoc, List.append_assoc]
      · dsimp only
        rw [hl]
        exact (by repeat (first | exact keep_nil | refine keep_cons rfl ?_))
    · rw [herr (fun h => by rw [← hf2, decide_eq_true hq3] at h; exact absurd h.2 (by decide)) (fun h => by have := htl h; omega)]
      exact xq_sub ((List.sublist_append_right x.l L).trans ((List.sublist_append_right (bls xs) _).trans ((List.sublist_append_right l _).trans (List.sublist_cons_self _ _)))) (xq_ret2 (.inl rfl) Try.results33 rfl rfl (SpM.err e))
    · rw [hend (List.length_eq_zero_iff.1 (by omega)) (by rw [← hf2]; exact decide_eq_false hq3)]
      exact xq_ret2 (.inl rfl) Try.results33 rfl rfl ⟨xs, s, k, l, rfl, rfl, hok, hrg, hsl, rfl⟩
end Go.Proofs.Ytogilblilljpmaa.X
/-
  The reference splits a compound: a walk of my own.
-/
namespace Go.Proofs.Ytogilblilljpmaa.X
open Go Go.RowKit
set_option linter.unusedVariables false
set_option linter.unusedSimpArgs false
theorem Rs.sub2 {W : World} {L L' : List Blk} {b o : Nat} {xs : List Int} (h : Rs W L (some ⟨b, o, none⟩) (ints .u8 xs)) (i n : Nat) (hs : ∀ z, z ∈ L → z ∈ L') : Rs W L' (some ⟨b, o + i * 1, none⟩) (ints .u8 ((xs.drop i).take n)) := by
  rw [Nat.mul_one]
  refine Rs.ints_take ?_ n
  rw [ints_drop]
  exact (h.mono hs).drop i
structure RpS where
  K : Nat
  xs : List Pb
  a : Nat
  s : Option Addr
  k : Nat
  l : List Blk
structure RpI (W : World) (L : List Blk) (bs : List Int) (z : RpS) : Prop where
  eq : splitL (bs.length + 1) true bs = comb (z.xs.map (·.q)) (splitL (z.K + 1) z.xs.isEmpty (bs.drop z.a))
  fu : bs.length - z.a ≤ z.K
  le : z.a ≤ bs.length
  few : 4 * z.xs.length ≤ z.a
  emp : z.xs.isEmpty = decide (z.a = 0)
  ok : ∀ x, x ∈ z.xs → x.Ok
  rg : ∀ x, x ∈ z.xs → x.q.Rg
  sl : SlO 4 115 (.slice z.s z.xs.length z.k) z.xs.length (z.xs.flatMap Pb.enc) z.l
end Go.Proofs.Ytogilblilljpmaa.X
/-
  Rows of packets are compared, judged few, copied: walks of my own.
-/
namespace Go.Proofs.Ytogilblilljpmaa.X
open Go Go.RowKit
set_option linter.unusedVariables false
set_option linter.unusedSimpArgs false
/-- A row of packets, wherever it lies. -/
structure PbR (W : World) (L : List Blk) (p : Option Addr) (xs : List Pb) : Prop where
  rs : Rs W L p (xs.flatMap Pb.enc)
  bd : ∀ x, x ∈ xs → Rs W L x.p (ints .u8 x.q.bd)
  rg : ∀ x, x ∈ xs → x.q.Rg
  few : ∀ x, x ∈ xs → x.q.bd.length ≤ 1000000
theorem PbR.mono {W : World} {L L' : List Blk} {p : Option Addr} {xs : List Pb} (h : PbR W L p xs) (hm : ∀ z, z ∈ L → z ∈ L') : PbR W L' p xs := ⟨h.rs.mono hm, fun x hx => (h.bd x hx).mono hm, h.rg, h.few⟩
theorem PbR.over {W w : World} {L : List Blk} {p : Option Addr} {xs : List Pb} (h : PbR W L p xs) (hw : Hp W w L) : PbR w [] p xs := ⟨h.rs.over hw, fun x hx => (h.bd x hx).over hw, h.rg, h.few⟩
theorem PbR.nilL {W : World} {L : List Blk} {p : Option Addr} {xs : List Pb} (h : PbR W [] p xs) : PbR W L p xs := h.mono fun _ hq => by cases hq
theorem mem_bls {xs : List Pb} {x : Pb} (hx : x ∈ xs) {z : Blk} (hz : z ∈ x.l) : z ∈ bls xs := List.mem_flatMap.2 ⟨x, hx, hz⟩
/-- An owned row is a row. -/
theorem PbR.own {W : World} {R l : List Blk} {T : TypeId} {s : Option Addr} {k : Nat} {xs : List Pb} (hO : SlO 4 T (.slice s xs.length k) xs.length (xs.flatMap Pb.enc) l) (hok : ∀ x, x ∈ xs → x.Ok) (hrg : ∀ x, x ∈ xs → x.q.Rg) (hf : ∀ x, x ∈ xs → x.q.bd.length ≤ 1000000) : PbR W (l ++ (bls xs ++ R)) s xs :=
  ⟨hO.rs fun z hz => List.mem_append_left _ hz, fun x hx => SlO.rs (hok x hx) fun z hz => List.mem_append_right _ (List.mem_append_left _ (mem_bls hx hz)), hrg, hf⟩
theorem PbR.nil {W : World} {L : List Blk} {p : Option Addr} : PbR W L p [] := ⟨Rs.nil, (fun x h => by cases h), (fun x h => by cases h), (fun x h => by cases h)⟩
structure RtS where
  i : Nat
  ys : List Pb
  s : Option Addr
  k : Nat
  l : List Blk
end Go.Proofs.Ytogilblilljpmaa.X
/-
  Words of my own for walks, twenty-first part: noughts that are appended. No condition; generic over the program.
-/
namespace Go.Proofs.Ytogilblilljpmaa.X
open Go Go.RowKit
set_option linter.unusedVariables false
set_option linter.unusedSimpArgs false
theorem zeros_one (v : Value) (k : Nat) : Builtin.zeroCells #[v] k = (List.replicate k v).toArray := by
  apply Array.toList_inj.1
  unfold Builtin.zeroCells
  rw [Array.toList_map, Array.toList_range]
  apply List.ext_getElem
  · simp
  · intro i h1 h2
    simp only [List.getElem_map, List.getElem_range, List.getElem_replicate]
    simp [Nat.mod_one]
section
variable {P : Program} (w : World)
theorem run_appendZ_room (t tn ty e : TypeId) (i : TypeInfo) (z v : Value) (kn kx : IntKind) (ht : P.underlying t = some (.slice e)) (htn : P.underlying tn = some (.int kn)) (hi : P.info? e = some i) (hz : i.zero = some z) (hs : i.size = 1) (hzc : z.cells = #[v]) (h1 : v.oneCell' = true)
    (g sLen sCap : Nat) (cur : Array Value) (hg : w.heap[g]? = some (.cells cur e (0, 0))) (m : Nat) (h0 : 0 < m) (h63 : (m : Int) ≤ 9223372036854775807) (h48 : m * i.bytes ≤ 281474976710656)
    (hroom : sLen + m ≤ sCap) (hfit : sLen + m ≤ cur.size) :
    (Builtin.append_ #[t, tn] ty #[.slice (some ⟨g, 0, none⟩) sLen sCap, .int kx m]).run P w =
      .ok (.slice (some ⟨g, 0, none⟩) (sLen + m) sCap) (w.setRow g (cur.toList.take sLen ++ List.replicate m v ++ cur.toList.drop (sLen + m)).toArray) := by
  have hw : IntKind.i64.wrap (m : Int) = m := by rw [IntKind.wrap_i64]; omega
  have h48i : ¬ (281474976710656 < (m : Int) * (i.bytes : Int)) := by rw [← Int.natCast_mul]; omega
  have hneg : ¬ ((m : Int) < 0) := by omega
  have hns : ¬ (m = 0) := by omega
  have hst := run_storeCells_at P g sLen e (List.replicate m v) 0 cur w hg (by simp; omega) (fun u hu => by rw [List.eq_of_mem_replicate hu]; exact h1)
  simp only [Nat.add_zero, List.length_replicate] at hst
  simp [Builtin.append_, run_underlying ht, run_underlying htn, sizeOf, typeInfo, zeroValue, hi, hz, hs, asInt, asIntOf, hw, hneg, hns, h48i, hroom, Addr.add_lit, hzc, zeros_one, hst]
theorem run_appendZ_nil (t tn ty e : TypeId) (i : TypeInfo) (z : Value) (kn kx : IntKind) (ht : P.underlying t = some (.slice e)) (htn : P.underlying tn = some (.int kn)) (hi : P.info? e = some i) (hz : i.zero = some z)
    (n : Nat) (h0 : 0 < n) (hs : 0 < i.size) (h63 : (n : Int) ≤ 9223372036854775807) (h48 : n * i.bytes ≤ 281474976710656) :
    (Builtin.append_ #[t, tn] ty #[.slice none 0 0, .int kx n]).run P w =
      .ok (.slice (some ⟨w.heap.size, 0, none⟩) n (grownCap w n 0 e)) (w.drew.alloc (.cells (Builtin.zeroCells z.cells n ++ Builtin.zeroCells z.cells (grownCap w n 0 e - n)) e)) := by
  have hn : n ≠ 0 := by omega
  have hw : IntKind.i64.wrap (n : Int) = n := by rw [IntKind.wrap_i64]; omega
  have h63' : ¬ (9223372036854775807 < (n : Int)) := by omega
  have h48' : ¬ (281474976710656 < Builtin.nextslicecap n 0 * i.bytes) := by rw [nextslicecap_zero h0]; omega
  have h48i : ¬ (281474976710656 < (n : Int) * (i.bytes : Int)) := by rw [← Int.natCast_mul]; omega
  have hneg : ¬ ((n : Int) < 0) := by omega
  have hns : ¬ (n * i.size = 0) := Nat.mul_ne_zero hn (by omega)
  simp [Builtin.append_, run_underlying ht, run_underlying htn, sizeOf, typeInfo, zeroValue, hi, hz, asInt, asIntOf, hw, hn, hneg, hns, h63', h48', h48i, Question.forced, run_firstCells_none, newRow, grownCap]
theorem run_appendZ_zero (t tn ty e : TypeId) (i : TypeInfo) (kn kx : IntKind) (ht : P.underlying t = some (.slice e)) (htn : P.underlying tn = some (.int kn)) (hi : P.info? e = some i) (p : Option Addr) (m cap : Nat) (hm : m ≤ cap) :
    (Builtin.append_ #[t, tn] ty #[.slice p m cap, .int kx 0]).run P w = .ok (.slice p m cap) w := by
  have hw : IntKind.i64.wrap (0 : Int) = 0 := by decide
  cases p <;> simp [Builtin.append_, run_underlying ht, run_underlying htn, sizeOf, typeInfo, hi, asInt, asIntOf, hw, hm, storeCells]
theorem run_appendZ_grow (t tn ty e : TypeId) (i : TypeInfo) (z : Value) (kn kx : IntKind) (ht : P.underlying t = some (.slice e)) (htn : P.underlying tn = some (.int kn)) (hi : P.info? e = some i) (hz : i.zero = some z)
    (b : Addr) (sLen sCap : Nat) (olds : List Value) (hlo : olds.length = sLen * i.size) (holds : ∀ j v, olds[j]? = some v → w.cell? (b.add j) = some v)
    (n : Nat) (h0 : 0 < n) (hs : 0 < i.size) (hg : sCap < sLen + n) (h63 : ((sLen + n : Nat) : Int) ≤ 9223372036854775807) (h48 : n * i.bytes ≤ 281474976710656) (hfit : Builtin.nextslicecap (sLen + n) sCap * i.bytes ≤ 281474976710656) :
    (Builtin.append_ #[t, tn] ty #[.slice (some b) sLen sCap, .int kx n]).run P w =
      .ok (.slice (some ⟨w.heap.size, 0, none⟩) (sLen + n) (grownCap w (sLen + n) sCap e))
        (w.drew.alloc (.cells (olds.toArray ++ Builtin.zeroCells z.cells n ++ Builtin.zeroCells z.cells (grownCap w (sLen + n) sCap e - (sLen + n))) e)) := by
  have hn : ¬ (sLen + n ≤ sCap) := by omega
  have hw : IntKind.i64.wrap (n : Int) = n := by rw [IntKind.wrap_i64]; omega
  have h63' : ¬ (9223372036854775807 < ((sLen : Int) + (n : Int))) := by omega
  have h48' : ¬ (281474976710656 < Builtin.nextslicecap (sLen + n) sCap * i.bytes) := by omega
  have h48i : ¬ (281474976710656 < (n : Int) * (i.bytes : Int)) := by rw [← Int.natCast_mul]; omega
  have hneg : ¬ ((n : Int) < 0) := by omega
  have hns : ¬ (n * i.size = 0) := Nat.mul_ne_zero (by omega) (by omega)
  have hfo := run_firstCells_some (P := P) w.drew i.size sLen b sLen sCap olds hlo (by simpa using holds)
  simp [Builtin.append_, run_underlying ht, run_underlying htn, sizeOf, typeInfo, zeroValue, hi, hz, asInt, asIntOf, hw, hn, hneg, hns, h63', h48', h48i, Question.forced, hfo, newRow, grownCap]
end
section
variable {P : Program} {W : World} {n : Nat} {L : List Blk} {E : List (Nat × Value)} {d : Option Nat} {t : TypeId} {pos : String} {after : Array Edge} {g : Option (Nat × Bool)} {K : Value → List Blk → Prop}
/-- Noughts are appended to an owned slice of cells. -/
theorem ef_appendZ (A R l : List Blk) {T T2 e bt : Nat} {z v0 : Value} {kn kx : IntKind} {x y : Operand} {v : Value} {m : Nat} {i : Int} (k : Nat) {xs : List Value} [hT : Sl P T e] [hT2 : Ik P T2 kn] [hI : Inf P e z 1 bt]
    (hx : ev E x = some v) (hy : ev E y = some (.int kx i)) (hik : i = k) (hO : SlO 1 e v m xs l) (hL : L = A ++ (l ++ R)) (hzc : z.cells = #[v0]) (h1 : v0.oneCell' = true)
    (hfit : (m + k) * bt ≤ 140737488355328) (hsm : m + k ≤ 9223372036854775807) (hK : ∀ q c' l', SlO 1 e (.slice q (m + k) c') (m + k) (xs ++ List.replicate k v0) l' → m + k ≤ c' → K (.slice q (m + k) c') (A ++ (l' ++ R))) :
    EF P W n L E ⟨d, .call ⟨.builtin .append, #[x, y], #[T, T2]⟩, t, pos, after, g⟩ K := by
  subst hik
  obtain ⟨p0, c0, rfl, hO, hmc0⟩ := hO.opn
  refine ⟨fun a w ha hw => ?_⟩
  have hrun : (execOp a.eval ⟨d, .call ⟨.builtin .append, #[x, y], #[T, T2]⟩, t, pos, after, g⟩).run P w = ((Builtin.append_ #[T, T2] t #[.slice p0 m c0, .int kx (k : Int)]).run P w).andThen fun v w => .ok (.value v) w := by
    simp [execOp, resolve, invoke, builtin, ha.eval hx, ha.eval hy]
  rw [hrun]
  obtain ⟨i, hi1, hi2, hi3, hi4, hzz⟩ := hI.h
  subst hi4
  have hkb : k * i.bytes ≤ 281474976710656 := by
    have : k * i.bytes ≤ (m + k) * i.bytes := Nat.mul_le_mul_right _ (by omega)
    omega
  by_cases hk0 : k = 0
  · subst hk0
    rw [show ((0 : Nat) : Int) = 0 from rfl, run_appendZ_zero w T T2 t e i kn kx hT.h hT2.h hi1 p0 m c0 hmc0]
    refine ⟨_, hw, ?_⟩
    rw [hL]
    exact hK p0 c0 l (by simpa using hO) (by omega)
  · rcases hO with ⟨he, rfl, rfl, rfl⟩ | ⟨b, cs, cap, he, rfl, hmc, hcs, htk⟩
    · simp only [Value.slice.injEq] at he
      obtain ⟨rfl, _, rfl⟩ := he
      have hr := run_appendZ_nil (P := P) w T T2 t e i z kn kx hT.h hT2.h hi1 hi2 k (by omega) (by omega) (by omega) hkb
      rw [hr]
      have hge := grownCap_ge w k 0 e
      have hcap : 0 + k ≤ grownCap w k 0 e := by omega
      have hK' := hK (some ⟨w.heap.size, 0, none⟩) (grownCap w k 0 e) [(w.heap.size, .cells (Builtin.zeroCells z.cells k ++ Builtin.zeroCells z.cells (grownCap w k 0 e - k)) e (0, 0))] (.inr ⟨w.heap.size, _, grownCap w k 0 e, rfl, rfl, hcap, ?_, ?_⟩) hcap
      · refine ⟨_, (hw.drew.alloc _).perm ?_, by rw [Nat.zero_add] at hK'; exact hK'⟩
        rw [hL]
        simp only [List.nil_append, List.singleton_append]
        exact List.perm_middle.symm
      · simp only [Array.size_append, size_zeroCells, hzz, Nat.mul_one]
        omega
      · rw [hzc, zeros_one, zeros_one]
        simp only [Array.toList_append, Nat.zero_add, Nat.mul_one, List.nil_append]
        have := List.take_left (l₁ := List.replicate k v0) (l₂ := List.replicate (grownCap w k 0 e - k) v0)
        rwa [List.length_replicate] at this
    · simp only [Value.slice.injEq] at he
      obtain ⟨rfl, _, rfl⟩ := he
      rw [Nat.mul_one] at hcs htk
      have hw2 := hw
      rw [hL] at hw2
      have hlx : xs.length = m := by rw [← htk, List.length_take, Array.length_toList]; omega
      by_cases hroom : m + k ≤ c0
      · have hr := run_appendZ_room (P := P) w T T2 t e i z v0 kn kx hT.h hT2.h hi1 hi2 hi3 hzc h1 b m c0 cs hw2.mid k (by omega) (by omega) hkb hroom (by omega)
        rw [hr]
        have hK' := hK (some ⟨b, 0, none⟩) c0 [(b, .cells (cs.toList.take m ++ List.replicate k v0 ++ cs.toList.drop (m + k)).toArray e (0, 0))] (.inr ⟨b, _, c0, rfl, rfl, hroom, ?_, ?_⟩) hroom
        · exact ⟨_, hw2.turnAt rfl rfl rfl (setRow_heap w b cs _ e (0, 0) hw2.mid) (fun q hq => setRow_other w b q _ hq), hK'⟩
        · simp only [List.size_toArray, List.length_append, List.length_take, List.length_drop, List.length_replicate, Array.length_toList, Nat.mul_one]
          omega
        · rw [htk, Nat.mul_one]
          have : m + k = (xs ++ List.replicate k v0).length := by simp [hlx]
          rw [this]
          exact List.take_left
      · have holds : ∀ j u, xs[j]? = some u → w.cell? ((⟨b, 0, none⟩ : Addr).add j) = some u := fun j u hj => by
          rw [add_zero']
          rw [← htk, List.getElem?_take] at hj
          split at hj
          · simp [World.cell?, hw2.mid]; simpa using hj
          · cases hj
        have hr := run_appendZ_grow (P := P) w T T2 t e i z kn kx hT.h hT2.h hi1 hi2 ⟨b, 0, none⟩ m c0 xs (by rw [hi3]; omega) holds k (by omega) (by omega) (by omega) (by omega) hkb (growslice_fits (by omega) hfit)
        rw [hr]
        have hge := grownCap_ge w (m + k) c0 e
        have hK' := hK (some ⟨w.heap.size, 0, none⟩) (grownCap w (m + k) c0 e) [(w.heap.size, .cells (xs.toArray ++ Builtin.zeroCells z.cells k ++ Builtin.zeroCells z.cells (grownCap w (m + k) c0 e - (m + k))) e (0, 0))] (.inr ⟨w.heap.size, _, grownCap w (m + k) c0 e, rfl, rfl, hge, ?_, ?_⟩) hge
        · refine ⟨_, ((hw2.drew.alloc _).sub (L' := (w.heap.size, .cells (xs.toArray ++ Builtin.zeroCells z.cells k ++ Builtin.zeroCells z.cells (grownCap w (m + k) c0 e - (m + k))) e (0, 0)) :: (A ++ R)) ?_).perm ?_, hK'⟩
          · refine List.Sublist.cons_cons _ ?_
            exact (List.Sublist.refl A).append (by simp)
          · simp only [List.singleton_append]
            exact List.perm_middle.symm
        · simp only [Array.size_append, List.size_toArray, size_zeroCells, hzz, hlx, Nat.mul_one]
          omega
        · rw [hzc, zeros_one, zeros_one, Nat.mul_one]
          have : m + k = (xs ++ List.replicate k v0).length := by simp [hlx]
          rw [this]
          simp only [Array.toList_append]
          exact List.take_left
end
end Go.Proofs.Ytogilblilljpmaa.X
/-
  Packets are written: walks of my own.
-/
namespace Go.Proofs.Ytogilblilljpmaa.X
open Go Go.RowKit
set_option linter.unusedVariables false
set_option linter.unusedSimpArgs false
theorem SlO.made {r k e : Nat} {v : Value} (hv : v.oneCell' = true) : SlO 1 e (.slice (some ⟨r, 0, none⟩) k k) k (List.replicate k v) [(r, .cells (List.replicate k v).toArray e (0, 0))] :=
  .inr ⟨r, (List.replicate k v).toArray, k, rfl, rfl, Nat.le_refl _, by simp, by simp⟩
/-- A number's last bytes. -/
def beK : Nat → Int → List Int
  | 0, _ => []
  | k + 1, n => beK k (n / 256) ++ [n % 256]
theorem beK_len : ∀ (k : Nat) (n : Int), (beK k n).length = k
  | 0, _ => rfl
  | k + 1, n => by show (beK k (n / 256) ++ [n % 256]).length = k + 1; rw [List.length_append, beK_len]; rfl
theorem beK_2 (n : Int) : beK 2 n = be2 n := rfl
theorem beK_4 (n : Int) : beK 4 n = be4 n := by
  show [n / 256 / 256 / 256 % 256, n / 256 / 256 % 256, n / 256 % 256, n % 256] = be4 n
  unfold be4
  simp only [List.cons.injEq, and_true]
  omega
set_option maxHeartbeats 2000000 in
theorem xf_bytes {W : World} {L : List Blk} (n : Int) (k : Nat) (h0 : 0 ≤ n) (h1 : n ≤ 18446744073709551615) (hk : k ≤ 8) : XF Try.prog W 72 #[.int .u64 n, .int .i64 k] L (fun v L' => ∃ p c l, v = .slice p k c ∧ SlO 1 5 (.slice p k c) k (ints .u8 (beK k n)) l ∧ L' = l ++ L) := by
  refine xf_enter (args := [_, _]) Try.func72 rfl Try.ntmps72 rfl ?_
  focus
    refine xc_seq ?_
    refine xc_region ?_
    refine xo_rd (rd_assign rfl) rfl ?_
    refine xo_nil ?_
    refine xq_seq ?_
    refine xc_seq ?_
    refine xc_region ?_
    refine xo_rd (rd_move rfl) rfl ?_
    refine xo_ef rfl (ef_makeSlice rfl rfl rfl (by omega) (by omega) (by omega) (by decide) fun r8 => ?_)
    refine xo_rd (rd_assign rfl) rfl ?_
    refine xo_nil ?_
    refine xq_seq ?_
    refine xc_seq ?_
    refine xc_seq ?_
    refine xc_region ?_
    refine xo_rd (rd_move rfl) rfl ?_
    refine xo_rd (rd_subn rfl rfl (by omega) (by omega)) rfl ?_
    refine xo_rd (rd_assign rfl) rfl ?_
    refine xo_nil ?_
    refine xq_seq ?_
    refine xc_block ?_
  refine xc_loopI (ι := Nat × Int × List Int × List Blk × Int) (fun s => s.1 ≤ k ∧ 0 ≤ s.2.1 ∧ s.2.1 ≤ 18446744073709551615 ∧ s.2.2.1.length = k - s.1 ∧ beK k n = beK s.1 s.2.1 ++ s.2.2.1 ∧ SlO 1 5 (.slice (some ⟨r8, 0, none⟩) k k) k (ints .u8 (List.replicate s.1 0 ++ s.2.2.1)) s.2.2.2.1 ∧ s.2.2.2.2 = (s.1 : Int) - 1) (fun s => s.1) (fun s => s.2.2.2.1 ++ L) (fun s => [(0, .int .u64 s.2.1), (5, .slice (some ⟨r8, 0, none⟩) k k), (6, .int .i64 s.2.2.2.2)]) (k, n, [], [(r8, .cells (List.replicate k (.int .u8 0)).toArray 5 (0, 0))], (k : Int) - 1) ⟨Nat.le_refl _, h0, h1, by simp, by simp, by dsimp only; rw [List.append_nil, show ints .u8 (List.replicate k 0) = List.replicate k (.int .u8 0) from by simp [ints]]; exact SlO.made rfl, rfl⟩ rfl (by repeat (first | exact keep_nil | refine keep_cons rfl ?_)) ?_
  rintro ⟨j, x, ts, l, t⟩ ⟨hj, hx0, hx1, htl, hbe, hO, ht⟩
  dsimp only at hj hx0 hx1 htl hbe hO ht ⊢
  cases j with
  | zero =>
    focus
      refine xc_seq ?_
      refine xc_seq ?_
      refine xc_region ?_
      refine xo_rd (rd_move rfl) rfl ?_
      refine xo_rd (rd_geq rfl rfl) rfl ?_
      refine xo_nil ?_
      refine xq_seq ?_
      refine xc_dec rfl (fun h1 => (by exfalso; omega)) (fun h1 => ?_)
      refine xc_exit ?_
      refine xq_then_exit ?_
      refine xq_then_exit ?_
      refine xq_block_hit ?_
      refine xq_seq ?_
      refine xc_seq ?_
      refine xc_region ?_
      refine xo_rd (rd_move rfl) rfl ?_
      refine xo_rd (rd_assign rfl) rfl ?_
      refine xo_nil ?_
      refine xq_seq ?_
      refine xc_ret ?_
    rw [show beK k n = ts from by rw [hbe]; rfl] at *
    exact xq_ret1 (.inl rfl) Try.results72 rfl ⟨_, _, l, rfl, hO, rfl⟩
  | succ j =>
    obtain rfl : t = (j : Int) := by omega
    focus
      refine xc_seq ?_
      refine xc_seq ?_
      refine xc_region ?_
      refine xo_rd (rd_move rfl) rfl ?_
      refine xo_rd (rd_geq rfl rfl) rfl ?_
      refine xo_nil ?_
      refine xq_seq ?_
      refine xc_condt rfl ?_
      refine xc_skip ?_
      refine xq_seq ?_
      refine xc_seq ?_
      refine xc_block ?_
      refine xc_seq ?_
      refine xc_region ?_
      refine xo_rd (rd_move rfl) rfl ?_
      refine xo_rd (rd_move rfl) rfl ?_
      refine xo_rd (rd_move rfl) rfl ?_
      refine xo_rd (rd_remn rfl rfl (by omega) (by omega)) rfl ?_
      refine xo_rd (rd_convn rfl (by omega) (by omega)) rfl ?_
      refine xo_rd (rd_indexAddr rfl rfl (by omega) (by omega)) rfl ?_
      refine xo_ef rfl (ef_storeElo [] _ (i := j) hO (by simp [ev, lk, pt]) rfl (by omega) rfl rfl rfl (by decide) rfl fun l' hO' => ?_)
      refine xo_nil ?_
      refine xq_seq ?_
      refine xc_region ?_
      refine xo_rd (rd_move rfl) rfl ?_
      refine xo_rd (rd_quon rfl rfl (by omega) (by omega) (by omega) (by omega)) rfl ?_
      refine xo_rd (rd_assign rfl) rfl ?_
      refine xo_nil ?_
      refine xq_block ?_
      refine xq_seq ?_
      refine xc_region ?_
      refine xo_rd (rd_move rfl) rfl ?_
      refine xo_rd (rd_subn rfl rfl (by omega) (by omega)) rfl ?_
      refine xo_rd (rd_assign rfl) rfl ?_
      refine xo_nil ?_
    refine xq_roundI (⟨j, x / 256, x % 256 :: ts, l', (j : Int) - 1⟩ : Nat × Int × List Int × List Blk × Int) ⟨by dsimp only; omega, by dsimp only; omega, by dsimp only; omega, by dsimp only [List.length_cons]; omega, ?_, ?_, rfl⟩ (by dsimp only; omega) rfl (by repeat (first | exact keep_nil | refine keep_cons rfl ?_))
    · dsimp only
      rw [hbe]
      show beK j (x / 256) ++ [x % 256] ++ ts = _
      rw [List.append_assoc]; rfl
    · dsimp only
      have e : (ints .u8 (List.replicate (j + 1) 0 ++ ts)).take (j * 1) ++ (Value.int .u8 (x % 256)).cells.toList ++ (ints .u8 (List.replicate (j + 1) 0 ++ ts)).drop ((j + 1) * 1) = ints .u8 (List.replicate j 0 ++ x % 256 :: ts) := by
        rw [Nat.mul_one, Nat.mul_one, ← X.ints_take, ← ints_drop]
        rw [List.take_append_of_le_length (by simp), List.drop_append_of_le_length (by simp)]
        simp [ints, Value.cells, List.take_replicate]
      rw [e] at hO'
      exact hO'
section
variable {P : Program} {W : World} {n : Nat} {L : List Blk} {E : List (Nat × Value)} {d : Option Nat} {t : TypeId} {pos : String} {after : Array Edge} {g : Option (Nat × Bool)}
theorem EF.subK {o : Oper} {K : Value → List Blk → Prop} (h : EF P W n L E o (fun v L' => ∃ L'', L''.Sublist L' ∧ K v L'')) : EF P W n L E o K := by
  refine ⟨fun a w ha hw => ?_⟩
  have := h.run a w ha hw
  revert this
  generalize (execOp a.eval o).run P w = r
  intro this
  unfold effUp at this ⊢
  split
  · obtain ⟨L', h1, L'', h2, h3⟩ := this; exact ⟨L'', h1.sub h2, h3⟩
  · obtain ⟨L', h1, L'', h2, h3⟩ := this; exact ⟨L'', h1.sub h2, h3⟩
  · exact Calls.mono this fun e w'' ⟨v, he, L', h1, L'', h2, h3⟩ => ⟨v, he, L'', h1.sub h2, h3⟩
  · simp_all
/-- An append; what lay ahead is dropped. -/
theorem ef_appendG (A R l : List Blk) {T e s bt : Nat} {z : Value} {x y : Operand} {v : Value} {m k c : Nat} {p : Option Addr} {xs news : List Value} {K : Value → List Blk → Prop} [hT : Sl P T e] [hI : Inf P e z s bt]
    (hx : ev E x = some v) (hy : ev E y = some (.slice p k c)) (hO : SlO s e v m xs l) (hL : L = A ++ (l ++ R)) (hsrc : Rs W L p news) (hk : news.length = k * s) (h1a : news.all (·.oneCell') = true) (hs : 0 < s)
    (hfit : (m + k) * bt ≤ 140737488355328) (hsm : m + k ≤ 9223372036854775807) (hK : ∀ q c' l', SlO s e (.slice q (m + k) c') (m + k) (xs ++ news) l' → m + k ≤ c' → K (.slice q (m + k) c') (l' ++ R)) :
    EF P W n L E ⟨d, .call ⟨.builtin .append, #[x, y], #[T, T]⟩, t, pos, after, g⟩ K :=
  EF.subK (ef_appendS A R l hx hy hO hL hsrc hk h1a hs hfit hsm fun q c' l' h1 h2 => ⟨_, List.sublist_append_right _ _, hK q c' l' h1 h2⟩)
end
theorem SlO.lit {r e k : Nat} {vs : List Value} (hk : vs.length = k) : SlO 1 e (.slice (some ⟨r, 0, none⟩) k k) k vs [(r, .cells vs.toArray e (0, 0))] :=
  .inr ⟨r, vs.toArray, k, rfl, rfl, Nat.le_refl _, by simp [hk], by simp [← hk]⟩
theorem or8_32 (x : Int) (h0 : 0 ≤ x) (h1 : x ≤ 255) (h : x / 32 % 2 = 0) : bits .or .u8 x 32 = x + 32 := u8_ind (p := fun x => x / 32 % 2 = 0 → bits .or .u8 x 32 = x + 32) (by decide +kernel) x h0 h1 h
theorem or8_128c (x : Int) (h0 : 0 ≤ x) (h1 : x ≤ 31) : bits .or .u8 128 x = 128 + x := u8_ind (p := fun x => x ≤ 31 → bits .or .u8 128 x = 128 + x) (by decide +kernel) x h0 (by omega) h1
theorem putP_len (q : Pc) (hg : q.Rg) : ((putP q).length : Int) = 4 + q.bd.length + q.pd := by
  unfold putP
  have := tailL_len q.pd hg.pd.1
  simp [be2]; omega
structure OuS where
  k : Nat
  n : Nat
  v : Value
  l : List Blk
end Go.Proofs.Ytogilblilljpmaa.X
/-
  Packets are written, by the reference and by the program: walks of my own.
-/
namespace Go.Proofs.Ytogilblilljpmaa.X
open Go Go.RowKit
set_option linter.unusedVariables false
set_option linter.unusedSimpArgs false
set_option maxHeartbeats 4000000 in
theorem xf_rput {W : World} {L : List Blk} (x : Pb) (h1 : Rs W L x.p (ints .u8 x.q.bd)) (hg : x.q.Rg) (hR : x.q.Right) :
    XF Try.prog W 75 #[.agg x.enc.toArray] L (fun v L' => ∃ s k l, v = .slice s (putP x.q).length k ∧ SlO 1 5 (.slice s (putP x.q).length k) (putP x.q).length (ints .u8 (putP x.q)) l ∧ L' = l ++ L) := by
  refine xf_enter (args := [_]) Try.func75 rfl Try.ntmps75 rfl ?_
  obtain ⟨q, p, c, _⟩ := x
  have hlp := putP_len q hg
  obtain ⟨ct, kd, bd, pd⟩ := q
  have g1 := hg.ct; have g2 := hg.kd; have g4 := hg.pd
  obtain ⟨e1, e2, e3, e4⟩ := hR
  dsimp only [By] at h1 g1 g2 g4 e1 e2 e3 e4 hlp
  dsimp only [Pb.enc, Pc.enc]
  focus
    refine xc_seq ?_
    refine xc_region ?_
    refine xo_ef rfl (ef_box rfl fun r1 => ?_)
    refine xo_rd (rd_assign rfl) rfl ?_
    refine xo_nil ?_
    refine xq_seq ?_
    refine xc_seq ?_
    refine xc_region ?_
    refine xo_rd (rd_fieldAddr rfl) rfl ?_
    refine xo_rd (rd_load1 rfl (Cl.o0 rfl)) rfl ?_
    refine xo_rd (rd_convn rfl (by omega) (by omega)) rfl ?_
    refine xo_rd (rd_addn rfl rfl (by omega) (by omega)) rfl ?_
    refine xo_rd (rd_assign rfl) rfl ?_
    refine xo_nil ?_
    refine xq_seq ?_
  refine xc_join (ι := Unit) (fun _ => True) (fun _ => (r1, .cells #[.int .u8 ct, .int .u8 kd, .slice p bd.length c, .int .u8 pd] 115 (0, 0)) :: L) (fun _ => [(1, .pointer (some ⟨r1, 0, none⟩)), (3, .int .i64 (fst6 ⟨ct, kd, bd, pd⟩))]) ?_ ?_
  · focus
      refine xc_seq ?_
      refine xc_region ?_
      refine xo_rd (rd_fieldAddr rfl) rfl ?_
      refine xo_rd (rd_load1 rfl (Cl.o0 rfl)) rfl ?_
      refine xo_rd (rd_gtr rfl rfl) rfl ?_
      refine xo_nil ?_
      refine xq_seq ?_
      refine xc_dec rfl (fun hw1 => ?_) (fun hw1 => ?_)
      refine xc_region ?_
      refine xo_rd (rd_move rfl) rfl ?_
      refine xo_rd (rd_addn rfl rfl (by omega) (by omega)) rfl ?_
      refine xo_rd (rd_assign rfl) rfl ?_
      refine xo_nil ?_
      rotate_left
      refine xc_skip ?_
      rotate_left
    · rw [show fst6 ⟨ct, kd, bd, pd⟩ = 128 + ct + 32 from by unfold fst6; rw [if_pos (by assumption)]]
      exact xq_joined () trivial rfl (by repeat (first | exact keep_nil | refine keep_cons rfl ?_))
    · rw [show fst6 ⟨ct, kd, bd, pd⟩ = 128 + ct from by unfold fst6; rw [if_neg (by assumption), Int.add_zero]]
      exact xq_joined () trivial rfl (by repeat (first | exact keep_nil | refine keep_cons rfl ?_))
  rintro _ _
  have hffr : 0 ≤ fst6 ⟨ct, kd, bd, pd⟩ ∧ fst6 ⟨ct, kd, bd, pd⟩ ≤ 255 := by unfold fst6; dsimp only; constructor <;> (split <;> omega)
  obtain ⟨ff, hff⟩ : ∃ ff, ff = fst6 ⟨ct, kd, bd, pd⟩ := ⟨_, rfl⟩
  rw [← hff] at hffr ⊢
  have hbx : ∀ L', (r1, .cells #[.int .u8 ct, .int .u8 kd, .slice p bd.length c, .int .u8 pd] 115 (0, 0)) ∈ L' → ∀ i v, [Value.int .u8 ct, .int .u8 kd, .slice p bd.length c, .int .u8 pd][i]? = some v → Cl W L' r1 i v := fun L' hL' i v hv => Cl.own hL' (by simpa using hv)
  focus
    refine xc_seq ?_
    refine xc_region ?_
    refine xo_rd (rd_move rfl) rfl ?_
    refine xo_rd (rd_convn rfl (by omega) (by omega)) rfl ?_
    refine xo_rd (rd_fieldAddr rfl) rfl ?_
    refine xo_rd (rd_load1 rfl (Cl.o0 rfl)) rfl ?_
    refine xo_ef rfl (ef_buildL (T := 49) (len := 2) (s := 1) (cells := (ints .u8 [ff, kd]).toArray) rfl (by decide) (by decide) (by kernel_rfl) fun r19 => ?_)
    refine xo_rd (rd_assign rfl) rfl ?_
    refine xo_nil ?_
    refine xq_seq ?_
  focus
    refine xc_seq ?_
    refine xc_region ?_
    refine xo_rd (rd_move rfl) rfl ?_
    refine xo_rd (rd_fieldAddr rfl) rfl ?_
    refine xo_rd (rd_load1 rfl (hbx _ (by simp) _ _ rfl)) rfl ?_
    refine xo_rd (rd_len rfl) rfl ?_
    refine xo_rd (rd_fieldAddr rfl) rfl ?_
    refine xo_rd (rd_load1 rfl (hbx _ (by simp) _ _ rfl)) rfl ?_
    refine xo_rd (rd_convn rfl (by omega) (by omega)) rfl ?_
    refine xo_rd (rd_addn rfl rfl (by omega) (by omega)) rfl ?_
    refine xo_rd (rd_quon rfl rfl (by omega) (by omega) (by omega) (by omega)) rfl ?_
    refine xo_rd (rd_convn rfl (by omega) (by omega)) rfl ?_
    refine xo_ef rfl (ef_call rfl (XF.mono (xf_bytes (((bd.length : Int) + pd) / 4) 2 (by omega) (by omega) (by omega)) ?_))
    rintro v L' ⟨pa, ca, la, rfl, hOa, rfl⟩
    refine xo_ef rfl (ef_appendG la ((r1, .cells #[.int .u8 ct, .int .u8 kd, .slice p bd.length c, .int .u8 pd] 115 (0, 0)) :: L) [(r19, .cells (ints .u8 [ff, kd]).toArray 5 (0, 0))] (news := ints .u8 (beK 2 (((bd.length : Int) + pd) / 4))) rfl rfl (SlO.lit rfl) rfl (hOa.rs (by intro z hz; simp [hz])) (by rw [ints_len, beK_len]) (ints_one _ _) (by decide) (by omega) (by omega) fun qb kb lb hOb hcb => ?_)
    refine xo_rd (rd_assign rfl) rfl ?_
    refine xo_nil ?_
    refine xq_seq ?_
  focus
    refine xc_seq ?_
    refine xc_region ?_
    refine xo_rd (rd_move rfl) rfl ?_
    refine xo_rd (rd_fieldAddr rfl) rfl ?_
    refine xo_rd (rd_load1 rfl (hbx _ (by simp) _ _ rfl)) rfl ?_
    refine xo_ef rfl (ef_appendG [] ((r1, .cells #[.int .u8 ct, .int .u8 kd, .slice p bd.length c, .int .u8 pd] 115 (0, 0)) :: L) lb (news := ints .u8 bd) rfl rfl hOb rfl (h1.mono (by intro z hz; simp [hz])) (by rw [ints_len, Nat.mul_one]) (ints_one _ _) (by decide) (by omega) (by omega) fun q3 k3 l3 hO3 hc3 => ?_)
    refine xo_rd (rd_assign rfl) rfl ?_
    refine xo_nil ?_
    refine xq_seq ?_
  rw [← ints_app, ← ints_app, beK_2] at hO3
  generalize hX3 : [ff, kd] ++ be2 (((bd.length : Int) + pd) / 4) ++ bd = X3 at hO3
  have hput : ∀ T, tailL pd = T → putP ⟨ct, kd, bd, pd⟩ = X3 ++ T := fun T h => by
    rw [← hX3, ← h, hff]
    simp only [putP, List.append_assoc]
  obtain ⟨n3, hn3⟩ : ∃ n3, n3 = 2 + 2 + bd.length := ⟨_, rfl⟩
  rw [← hn3] at hO3 ⊢
  refine xc_join (ι := OuS) (fun s => s.n ≤ n3 + 300 ∧ SlO 1 5 s.v s.n (ints .u8 (X3 ++ List.replicate (pd - 1).toNat 0)) s.l) (fun s => s.l ++ ((r1, .cells #[.int .u8 ct, .int .u8 kd, .slice p bd.length c, .int .u8 pd] 115 (0, 0)) :: L)) (fun s => [(1, .pointer (some ⟨r1, 0, none⟩)), (4, s.v)]) ?_ ?_
  · skip
    focus
      refine xc_seq ?_
      refine xc_region ?_
      refine xo_rd (rd_assign rfl) rfl ?_
      refine xo_nil ?_
      refine xq_seq ?_
      refine xc_block ?_
    refine xc_loopI (ι := OuS) (fun s => (s.k : Int) ≤ (pd - 1).toNat ∧ s.n = n3 + s.k ∧ SlO 1 5 s.v s.n (ints .u8 (X3 ++ List.replicate s.k 0)) s.l) (fun s => (pd - 1).toNat - s.k) (fun s => s.l ++ ((r1, .cells #[.int .u8 ct, .int .u8 kd, .slice p bd.length c, .int .u8 pd] 115 (0, 0)) :: L)) (fun s => [(1, .pointer (some ⟨r1, 0, none⟩)), (4, s.v), (5, .int .i64 ((s.k : Int) + 1))]) ⟨0, n3, _, l3⟩ ⟨by dsimp only; omega, rfl, by dsimp only; rw [List.replicate_zero, List.append_nil]; exact hO3⟩ rfl (by repeat (first | exact keep_nil | refine keep_cons rfl ?_)) ?_
    rintro ⟨k, n, v, l⟩ ⟨hk, hn, hO⟩
    dsimp only at hk hn hO ⊢
    subst hn
    focus
      refine xc_seq ?_
      refine xc_seq ?_
      refine xc_region ?_
      refine xo_rd (rd_move rfl) rfl ?_
      refine xo_rd (rd_fieldAddr rfl) rfl ?_
      refine xo_rd (rd_load1 rfl (hbx _ (by simp) _ _ rfl)) rfl ?_
      refine xo_rd (rd_convn rfl (by omega) (by omega)) rfl ?_
      refine xo_rd (rd_lss rfl rfl) rfl ?_
      refine xo_nil ?_
      refine xq_seq ?_
      refine xc_dec rfl (fun hw1 => ?_) (fun hw1 => ?_)
      refine xc_skip ?_
      refine xq_seq ?_
      refine xc_seq ?_
      refine xc_block ?_
      refine xc_region ?_
      refine xo_rd (rd_move rfl) rfl ?_
      refine xo_ef rfl (ef_slice1 rfl rfl rfl fun r44 => ?_)
      refine xo_ef rfl (ef_appendG [(r44, .cells #[.int .u8 0] 5 (0, 0))] ((r1, .cells #[.int .u8 ct, .int .u8 kd, .slice p bd.length c, .int .u8 pd] 115 (0, 0)) :: L) l (news := [.int .u8 0]) rfl rfl hO rfl (Rs.fresh (List.Mem.head _)) rfl rfl (by decide) (by omega) (by omega) fun qb kb lb hOb hcb => ?_)
      refine xo_rd (rd_assign rfl) rfl ?_
      refine xo_nil ?_
      refine xq_block ?_
      refine xq_seq ?_
      refine xc_region ?_
      refine xo_rd (rd_move rfl) rfl ?_
      refine xo_rd (rd_addn rfl rfl (by omega) (by omega)) rfl ?_
      refine xo_rd (rd_assign rfl) rfl ?_
      refine xo_nil ?_
      rotate_left
      refine xc_exit ?_
      refine xq_then_exit ?_
      refine xq_then_exit ?_
      refine xq_block_hit ?_
      rotate_left
    · refine xq_roundI (⟨k + 1, n3 + k + 1, _, lb⟩ : OuS) ⟨by dsimp only; omega, by dsimp only; omega, ?_⟩ (by dsimp only; omega) rfl (by repeat (first | exact keep_nil | refine keep_cons rfl ?_))
      dsimp only
      rw [List.replicate_succ', ← List.append_assoc, ints_app]
      exact hOb
    · have hkk : k = (pd - 1).toNat := by omega
      rw [← hkk]
      exact xq_joined (⟨k, n3 + k, v, l⟩ : OuS) ⟨by dsimp only; omega, hO⟩ rfl (by repeat (first | exact keep_nil | refine keep_cons rfl ?_))
  rintro ⟨_, n4, v4, l4⟩ ⟨hn4, hO4⟩
  dsimp only at hn4 hO4 ⊢
  focus
    refine xc_seq ?_
    refine xc_seq ?_
    refine xc_region ?_
    refine xo_rd (rd_fieldAddr rfl) rfl ?_
    refine xo_rd (rd_load1 rfl (hbx _ (by simp) _ _ rfl)) rfl ?_
    refine xo_rd (rd_gtr rfl rfl) rfl ?_
    refine xo_nil ?_
    refine xq_seq ?_
    refine xc_dec rfl (fun hw1 => ?_) (fun hw1 => ?_)
    refine xc_region ?_
    refine xo_rd (rd_move rfl) rfl ?_
    refine xo_rd (rd_fieldAddr rfl) rfl ?_
    refine xo_rd (rd_load1 rfl (hbx _ (by simp) _ _ rfl)) rfl ?_
    refine xo_ef rfl (ef_slice1 rfl rfl rfl fun r52 => ?_)
    refine xo_ef rfl (ef_appendG [(r52, .cells #[.int .u8 pd] 5 (0, 0))] _ l4 (news := [.int .u8 pd]) rfl rfl hO4 rfl (Rs.fresh (List.Mem.head _)) rfl rfl (by decide) (by omega) (by omega) fun qb kb lb hOb hcb => ?_)
    refine xo_rd (rd_assign rfl) rfl ?_
    refine xo_nil ?_
    refine xq_seq ?_
    refine xc_seq ?_
    refine xc_region ?_
    refine xo_rd (rd_move rfl) rfl ?_
    refine xo_rd (rd_assign rfl) rfl ?_
    refine xo_nil ?_
    refine xq_seq ?_
    refine xc_ret ?_
    rotate_left
    refine xc_skip ?_
    refine xq_seq ?_
    refine xc_seq ?_
    refine xc_region ?_
    refine xo_rd (rd_move rfl) rfl ?_
    refine xo_rd (rd_assign rfl) rfl ?_
    refine xo_nil ?_
    refine xq_seq ?_
    refine xc_ret ?_
    rotate_left
  · have hT : tailL pd = List.replicate (pd - 1).toNat 0 ++ [pd] := by unfold tailL; rw [if_pos (by omega)]
    rw [hput _ hT]
    rw [show ints .u8 (X3 ++ List.replicate (pd - 1).toNat 0) ++ [.int .u8 pd] = ints .u8 (X3 ++ (List.replicate (pd - 1).toNat 0 ++ [pd])) from by simp [ints]] at hOb
    have hle : (X3 ++ (List.replicate (pd - 1).toNat 0 ++ [pd])).length = n4 + 1 := by have := hOb.len; rw [ints_len] at this; omega
    rw [hle]
    exact xq_sub (L' := lb ++ L) (List.Sublist.append_left (List.sublist_cons_self _ _) lb) (xq_ret1 (.inl rfl) Try.results75 rfl ⟨qb, kb, lb, rfl, hOb, rfl⟩)
  · have hp0 : pd = 0 := by omega
    subst hp0
    have hT : tailL 0 = [] := rfl
    rw [hput _ hT, List.append_nil]
    rw [show ((0 : Int) - 1).toNat = 0 from rfl, List.replicate_zero, List.append_nil] at hO4
    obtain ⟨q4, k4, rfl, hO4, _⟩ := hO4.opn
    have hle : X3.length = n4 := by have := hO4.len; rw [ints_len] at this; omega
    rw [hle]
    exact xq_sub (L' := l4 ++ L) (List.Sublist.append_left (List.sublist_cons_self _ _) l4) (xq_ret1 (.inl rfl) Try.results75 rfl ⟨q4, k4, l4, rfl, hO4, rfl⟩)
set_option maxHeartbeats 4000000 in
theorem xf_mput {W : World} {L : List Blk} (x : Pb) (h1 : Rs W L x.p (ints .u8 x.q.bd)) (hg : x.q.Rg) (hR : x.q.Right) :
    XF Try.prog W 68 #[.agg x.enc.toArray] L (fun v L' => ∃ s k l, v = .slice s (putP x.q).length k ∧ SlO 1 5 (.slice s (putP x.q).length k) (putP x.q).length (ints .u8 (putP x.q)) l ∧ L' = l ++ L) := by
  refine xf_enter (args := [_]) Try.func68 rfl Try.ntmps68 rfl ?_
  obtain ⟨q, p, c, _⟩ := x
  have hlp := putP_len q hg
  obtain ⟨ct, kd, bd, pd⟩ := q
  have g1 := hg.ct; have g2 := hg.kd; have g4 := hg.pd
  obtain ⟨e1, e2, e3, e4⟩ := hR
  dsimp only [By] at h1 g1 g2 g4 e1 e2 e3 e4 hlp
  dsimp only [Pb.enc, Pc.enc]
  focus
    refine xc_seq ?_
    refine xc_region ?_
    refine xo_ef rfl (ef_box rfl fun r1 => ?_)
    refine xo_rd (rd_assign rfl) rfl ?_
    refine xo_nil ?_
    refine xq_seq ?_
    refine xc_seq ?_
    refine xc_region ?_
    refine xo_rd (rd_fieldAddr rfl) rfl ?_
    refine xo_rd (rd_load1 rfl (Cl.o0 rfl)) rfl ?_
    refine xo_rd (rd_cast (v' := .int .u8 (128 + ct)) (rd_or rfl rfl) (congrArg (Value.int .u8) (or8_128c ct g1.1 e1))) rfl ?_
    refine xo_rd (rd_assign rfl) rfl ?_
    refine xo_nil ?_
    refine xq_seq ?_
  refine xc_join (ι := Unit) (fun _ => True) (fun _ => (r1, .cells #[.int .u8 ct, .int .u8 kd, .slice p bd.length c, .int .u8 pd] 81 (0, 0)) :: L) (fun _ => [(1, .pointer (some ⟨r1, 0, none⟩)), (3, .int .u8 (fst6 ⟨ct, kd, bd, pd⟩))]) ?_ ?_
  · skip
    focus
      refine xc_seq ?_
      refine xc_region ?_
      refine xo_rd (rd_fieldAddr rfl) rfl ?_
      refine xo_rd (rd_load1 rfl (Cl.o0 rfl)) rfl ?_
      refine xo_rd (rd_gtr rfl rfl) rfl ?_
      refine xo_nil ?_
      refine xq_seq ?_
      refine xc_dec rfl (fun hw1 => ?_) (fun hw1 => ?_)
      refine xc_region ?_
      refine xo_rd (rd_move rfl) rfl ?_
      refine xo_rd (rd_cast (v' := .int .u8 (128 + ct + 32)) (rd_or rfl rfl) (congrArg (Value.int .u8) (or8_32 (128 + ct) (by omega) (by omega) (by omega)))) rfl ?_
      refine xo_rd (rd_assign rfl) rfl ?_
      refine xo_nil ?_
      rotate_left
      refine xc_skip ?_
      rotate_left
    · rw [show fst6 ⟨ct, kd, bd, pd⟩ = 128 + ct + 32 from by unfold fst6; rw [if_pos (by assumption)]]
      exact xq_joined () trivial rfl (by repeat (first | exact keep_nil | refine keep_cons rfl ?_))
    · rw [show fst6 ⟨ct, kd, bd, pd⟩ = 128 + ct from by unfold fst6; rw [if_neg (by assumption), Int.add_zero]]
      exact xq_joined () trivial rfl (by repeat (first | exact keep_nil | refine keep_cons rfl ?_))
  rintro _ _
  have hffr : 0 ≤ fst6 ⟨ct, kd, bd, pd⟩ ∧ fst6 ⟨ct, kd, bd, pd⟩ ≤ 255 := by unfold fst6; dsimp only; constructor <;> (split <;> omega)
  obtain ⟨ff, hff⟩ : ∃ ff, ff = fst6 ⟨ct, kd, bd, pd⟩ := ⟨_, rfl⟩
  rw [← hff] at hffr ⊢
  have hbx : ∀ L', (r1, .cells #[.int .u8 ct, .int .u8 kd, .slice p bd.length c, .int .u8 pd] 81 (0, 0)) ∈ L' → ∀ i v, [Value.int .u8 ct, .int .u8 kd, .slice p bd.length c, .int .u8 pd][i]? = some v → Cl W L' r1 i v := fun L' hL' i v hv => Cl.own hL' (by simpa using hv)
  obtain ⟨w, hw⟩ : ∃ w, w = ((bd.length : Int) + pd) / 4 := ⟨_, rfl⟩
  have hwb : 0 ≤ w ∧ w ≤ 65535 := by omega
  focus
    refine xc_seq ?_
    refine xc_region ?_
    refine xo_rd (rd_loadB rfl Kn.o0 (by rfl)) rfl ?_
    refine xo_ef rfl (ef_call rfl (XF.mono (xf_words ⟨ct, kd, bd, pd⟩ p c (by dsimp only; omega) g4) ?_))
    rintro v L' ⟨rfl, rfl⟩
    refine xo_rd (rd_assign rfl) rfl ?_
    refine xo_nil ?_
    refine xq_seq ?_
  rw [show ((Pc.mk ct kd bd pd).bd.length + (Pc.mk ct kd bd pd).pd) / 4 = w from hw.symm]
  focus
    refine xc_seq ?_
    refine xc_region ?_
    refine xo_rd (rd_move rfl) rfl ?_
    refine xo_rd (rd_fieldAddr rfl) rfl ?_
    refine xo_rd (rd_load1 rfl (Cl.o0 rfl)) rfl ?_
    refine xo_rd (rd_move rfl) rfl ?_
    refine xo_rd (rd_cast (v' := .int .i64 (w / 256)) (rd_shr rfl rfl (by decide) (by decide)) rfl) rfl ?_
    refine xo_rd (rd_cast (v' := .int .u8 (w / 256 % 256)) (rd_conv rfl) (congrArg (Value.int .u8) (wrap8 (w / 256)))) rfl ?_
    refine xo_rd (rd_move rfl) rfl ?_
    refine xo_rd (rd_cast (v' := .int .u8 (w % 256)) (rd_conv rfl) (congrArg (Value.int .u8) (wrap8 w))) rfl ?_
    refine xo_ef rfl (ef_buildL (T := 49) (len := 4) (s := 1) (cells := (ints .u8 ([ff, kd] ++ be2 w)).toArray) rfl (by decide) (by decide) (by kernel_rfl) fun r24 => ?_)
    refine xo_rd (rd_fieldAddr rfl) rfl ?_
    refine xo_rd (rd_load1 rfl (Cl.o1 rfl)) rfl ?_
    refine xo_ef rfl (ef_appendG [] ((r1, .cells #[.int .u8 ct, .int .u8 kd, .slice p bd.length c, .int .u8 pd] 81 (0, 0)) :: L) [(r24, .cells (ints .u8 ([ff, kd] ++ be2 w)).toArray 5 (0, 0))] (news := ints .u8 bd) rfl rfl (SlO.lit rfl) rfl (h1.mono (by intro z hz; simp [hz])) (by rw [ints_len, Nat.mul_one]) (ints_one _ _) (by decide) (by omega) (by omega) fun q3 k3 l3 hO3 hc3 => ?_)
    refine xo_rd (rd_assign rfl) rfl ?_
    refine xo_nil ?_
    refine xq_seq ?_
  rw [← ints_app] at hO3
  generalize hX3 : [ff, kd] ++ be2 w ++ bd = X3 at hO3
  have hput : ∀ T, tailL pd = T → putP ⟨ct, kd, bd, pd⟩ = X3 ++ T := fun T h => by
    rw [← hX3, ← h, hff, hw]
    simp only [putP, List.append_assoc]
  obtain ⟨n3, hn3⟩ : ∃ n3, n3 = 4 + bd.length := ⟨_, rfl⟩
  rw [← hn3] at hO3 ⊢
  by_cases hpd : 0 < pd
  · obtain ⟨z, hz⟩ : ∃ z : Nat, pd - 1 = z := ⟨(pd - 1).toNat, by omega⟩
    have hz2 : (pd - 1).toNat = z := by omega
    have hT : tailL pd = List.replicate z 0 ++ [pd] := by unfold tailL; rw [if_pos hpd, hz2]
    focus
      refine xc_seq ?_
      refine xc_seq ?_
      refine xc_region ?_
      refine xo_rd (rd_fieldAddr rfl) rfl ?_
      refine xo_rd (rd_load1 rfl (hbx _ (by simp) _ _ rfl)) rfl ?_
      refine xo_rd (rd_gtr rfl rfl) rfl ?_
      refine xo_nil ?_
      refine xq_seq ?_
      refine xc_dec rfl (fun hw1 => ?_) (fun hw1 => (by exfalso; omega))
      refine xc_drawM [0, 0, 2, 4, 9, 0, 32, 64, 144, 511] [0, 0, 2, 4, 9, 0, 32, 64, 144, 511] ([(r1, .cells #[.int .u8 ct, .int .u8 kd, .slice p bd.length c, .int .u8 pd] 81 (0, 0))]) (by kernel_rfl) (by kernel_rfl) (by kernel_rfl) ?_
      refine xm_take 0 (m' := 1) rfl (by kernel_rfl) (by first | exact Sb.refl | exact Sb.nil | (repeat (first | exact Sb.nil | exact Sb.refl | exact Sb.app0 | apply Sb.keep | apply Sb.keepApp | apply Sb.cons | apply Sb.app))) (rd_move rfl) rfl (by kernel_rfl) ?_
      refine xm_take 1 (m' := 3) rfl (by kernel_rfl) (by first | exact Sb.refl | exact Sb.nil | (repeat (first | exact Sb.nil | exact Sb.refl | exact Sb.app0 | apply Sb.keep | apply Sb.keepApp | apply Sb.cons | apply Sb.app))) (rd_fieldAddr rfl) rfl (by kernel_rfl) ?_
      refine xm_take 2 (m' := 7) rfl (by kernel_rfl) (by first | exact Sb.refl | exact Sb.nil | (repeat (first | exact Sb.nil | exact Sb.refl | exact Sb.app0 | apply Sb.keep | apply Sb.keepApp | apply Sb.cons | apply Sb.app))) (rd_load1 rfl (hbx _ (by simp) _ _ rfl)) rfl (by kernel_rfl) ?_
      refine xm_take 3 (m' := 15) rfl (by kernel_rfl) (by first | exact Sb.refl | exact Sb.nil | (repeat (first | exact Sb.nil | exact Sb.refl | exact Sb.app0 | apply Sb.keep | apply Sb.keepApp | apply Sb.cons | apply Sb.app))) (rd_subn rfl rfl (by omega) (by omega)) rfl (by kernel_rfl) ?_
      refine xm_take 5 (m' := 47) rfl (by kernel_rfl) (by first | exact Sb.refl | exact Sb.nil | (repeat (first | exact Sb.nil | exact Sb.refl | exact Sb.app0 | apply Sb.keep | apply Sb.keepApp | apply Sb.cons | apply Sb.app))) (rd_fieldAddr rfl) rfl (by kernel_rfl) ?_
      refine xm_take 6 (m' := 111) rfl (by kernel_rfl) (by first | exact Sb.refl | exact Sb.nil | (repeat (first | exact Sb.nil | exact Sb.refl | exact Sb.app0 | apply Sb.keep | apply Sb.keepApp | apply Sb.cons | apply Sb.app))) (rd_load1 rfl (hbx _ (by simp) _ _ rfl)) rfl (by kernel_rfl) ?_
      refine xm_two 4 7 (mi := 127) (mk := 239) rfl rfl (by kernel_rfl) rfl rfl (by kernel_rfl) (by kernel_rfl) (ef_appendZ [] ((r1, .cells #[.int .u8 ct, .int .u8 kd, .slice p bd.length c, .int .u8 pd] 81 (0, 0)) :: L) l3 z rfl rfl hz hO3 rfl rfl rfl (by omega) (by omega) fun q4 k4 l4 hO4 hc4 => ⟨(by first | exact Sb.refl | exact Sb.nil | (repeat (first | exact Sb.nil | exact Sb.refl | exact Sb.app0 | apply Sb.keep | apply Sb.keepApp | apply Sb.cons | apply Sb.app))), ?_⟩) (ef_slice1 rfl rfl rfl fun r38 => ⟨(by first | exact Sb.refl | exact Sb.nil | (repeat (first | exact Sb.nil | exact Sb.refl | exact Sb.app0 | apply Sb.keep | apply Sb.keepApp | apply Sb.cons | apply Sb.app))), ?_⟩)
      refine xm_one 7 (m' := 255) rfl (by kernel_rfl) rfl (by kernel_rfl) (ef_slice1 rfl rfl rfl fun r38 => ?_)
      refine ⟨(by first | exact Sb.refl | exact Sb.nil | (repeat (first | exact Sb.nil | exact Sb.refl | exact Sb.app0 | apply Sb.keep | apply Sb.keepApp | apply Sb.cons | apply Sb.app))), ?_⟩
      refine xm_one 8 (m' := 511) rfl (by kernel_rfl) rfl (by kernel_rfl) (ef_appendG [(r38, .cells #[.int .u8 pd] 5 (0, 0))] ((r1, .cells #[.int .u8 ct, .int .u8 kd, .slice p bd.length c, .int .u8 pd] 81 (0, 0)) :: L) l4 (news := [.int .u8 pd]) rfl rfl hO4 rfl (Rs.fresh (List.Mem.head _)) rfl rfl (by decide) (by omega) (by omega) fun qb kb lb hOb hcb => ?_)
      refine ⟨(by first | exact Sb.refl | exact Sb.nil | (repeat (first | exact Sb.nil | exact Sb.refl | exact Sb.app0 | apply Sb.keep | apply Sb.keepApp | apply Sb.cons | apply Sb.app))), ?_⟩
      refine xm_take 9 (m' := 1023) rfl (by kernel_rfl) (by first | exact Sb.refl | exact Sb.nil | (repeat (first | exact Sb.nil | exact Sb.refl | exact Sb.app0 | apply Sb.keep | apply Sb.keepApp | apply Sb.cons | apply Sb.app))) (rd_assign rfl) rfl (by kernel_rfl) ?_
      refine xm_done (by kernel_rfl) ?_
      refine xq_seq ?_
      refine xc_seq ?_
      refine xc_region ?_
      refine xo_rd (rd_move rfl) rfl ?_
      refine xo_rd (rd_assign rfl) rfl ?_
      refine xo_nil ?_
      refine xq_seq ?_
      refine xc_ret ?_
      rotate_left
      refine xm_one 4 (m' := 255) rfl (by kernel_rfl) rfl (by kernel_rfl) (ef_appendZ [(r38, .cells #[.int .u8 pd] 5 (0, 0))] ((r1, .cells #[.int .u8 ct, .int .u8 kd, .slice p bd.length c, .int .u8 pd] 81 (0, 0)) :: L) l3 z rfl rfl hz hO3 rfl rfl rfl (by omega) (by omega) fun q4 k4 l4 hO4 hc4 => ?_)
      refine ⟨(by first | exact Sb.refl | exact Sb.nil | (repeat (first | exact Sb.nil | exact Sb.refl | exact Sb.app0 | apply Sb.keep | apply Sb.keepApp | apply Sb.cons | apply Sb.app))), ?_⟩
      refine xm_one 8 (m' := 511) rfl (by kernel_rfl) rfl (by kernel_rfl) (ef_appendG [(r38, .cells #[.int .u8 pd] 5 (0, 0))] ((r1, .cells #[.int .u8 ct, .int .u8 kd, .slice p bd.length c, .int .u8 pd] 81 (0, 0)) :: L) l4 (news := [.int .u8 pd]) rfl rfl hO4 rfl (Rs.fresh (List.Mem.head _)) rfl rfl (by decide) (by omega) (by omega) fun qb kb lb hOb hcb => ?_)
      refine ⟨(by first | exact Sb.refl | exact Sb.nil | (repeat (first | exact Sb.nil | exact Sb.refl | exact Sb.app0 | apply Sb.keep | apply Sb.keepApp | apply Sb.cons | apply Sb.app))), ?_⟩
      refine xm_take 9 (m' := 1023) rfl (by kernel_rfl) (by first | exact Sb.refl | exact Sb.nil | (repeat (first | exact Sb.nil | exact Sb.refl | exact Sb.app0 | apply Sb.keep | apply Sb.keepApp | apply Sb.cons | apply Sb.app))) (rd_assign rfl) rfl (by kernel_rfl) ?_
      refine xm_done (by kernel_rfl) ?_
      refine xq_seq ?_
      refine xc_seq ?_
      refine xc_region ?_
      refine xo_rd (rd_move rfl) rfl ?_
      refine xo_rd (rd_assign rfl) rfl ?_
      refine xo_nil ?_
      refine xq_seq ?_
      refine xc_ret ?_
      rotate_left
    all_goals rw [hput _ hT]
    all_goals rw [show ints .u8 X3 ++ List.replicate z (.int .u8 0) ++ [.int .u8 pd] = ints .u8 (X3 ++ (List.replicate z 0 ++ [pd])) from by simp [ints]] at hOb
    all_goals have hle : (X3 ++ (List.replicate z 0 ++ [pd])).length = n3 + z + 1 := by have := hOb.len; rw [ints_len] at this; omega
    all_goals rw [hle]
    all_goals exact xq_sub (L' := lb ++ L) (List.Sublist.append_left (List.sublist_cons_self _ _) lb) (xq_ret1 (.inl rfl) Try.results68 rfl ⟨qb, kb, lb, rfl, hOb, rfl⟩)
  · focus
      refine xc_seq ?_
      refine xc_seq ?_
      refine xc_region ?_
      refine xo_rd (rd_fieldAddr rfl) rfl ?_
      refine xo_rd (rd_load1 rfl (hbx _ (by simp) _ _ rfl)) rfl ?_
      refine xo_rd (rd_gtr rfl rfl) rfl ?_
      refine xo_nil ?_
      refine xq_seq ?_
      refine xc_dec rfl (fun hw1 => (by exfalso; omega)) (fun hw1 => ?_)
      refine xc_skip ?_
      refine xq_seq ?_
      refine xc_seq ?_
      refine xc_region ?_
      refine xo_rd (rd_move rfl) rfl ?_
      refine xo_rd (rd_assign rfl) rfl ?_
      refine xo_nil ?_
      refine xq_seq ?_
      refine xc_ret ?_
    have hp0 : pd = 0 := by omega
    subst hp0
    rw [hput [] rfl, List.append_nil]
    have hle : X3.length = n3 := by have := hO3.len; rw [ints_len] at this; omega
    rw [hle]
    exact xq_sub (L' := l3 ++ L) (List.Sublist.append_left (List.sublist_cons_self _ _) l3) (xq_ret1 (.inl rfl) Try.results68 rfl ⟨q3, k3, l3, rfl, hO3, rfl⟩)
end Go.Proofs.Ytogilblilljpmaa.X
/-
  Packets are joined, by the program and by the reference: walks of my own.
-/
namespace Go.Proofs.Ytogilblilljpmaa.X
open Go Go.RowKit
set_option linter.unusedVariables false
set_option linter.unusedSimpArgs false
theorem okJ_iff : ∀ (l : List Pc), okJ l = true ↔ ∀ i (h : i < l.length), l[i].Right ∧ (0 < l[i].pd → i + 1 = l.length)
  | [] => ⟨fun _ i h => (by cases h), fun _ => rfl⟩
  | q :: r => by
    have ih := okJ_iff r
    have e : okJ (q :: r) = (decide q.Right && (decide (q.pd ≤ 0) || r.isEmpty) && okJ r) := rfl
    rw [e]
    simp only [Bool.and_eq_true, Bool.or_eq_true, decide_eq_true_eq, List.isEmpty_iff]
    constructor
    · rintro ⟨⟨h1, h2⟩, h3⟩ i hi
      cases i with
      | zero =>
        refine ⟨h1, fun hp => ?_⟩
        rcases h2 with h2 | h2
        · have : 0 < q.pd := hp
          omega
        · rw [h2]; rfl
      | succ j =>
        have := (ih.1 h3) j (by simpa using hi)
        refine ⟨this.1, fun hp => ?_⟩
        have := this.2 hp
        simp; omega
    · intro h
      refine ⟨⟨(h 0 (by simp)).1, ?_⟩, ih.2 fun i hi => ?_⟩
      · by_cases hp : q.pd ≤ 0
        · exact .inl hp
        · have := (h 0 (by simp)).2 (by show 0 < q.pd; omega)
          refine .inr ?_
          simp at this
          exact this
      · have := h (i + 1) (by simpa using hi)
        refine ⟨this.1, fun hp => ?_⟩
        have := this.2 hp
        simp at this; omega
theorem xf_rightP {W : World} {L : List Blk} (x : Pb) (b : Bool) (hb : decide x.q.Right = b) (hg : x.q.Rg) (b1 : x.q.bd.length ≤ 1000000) : XF Try.prog W 67 #[.agg x.enc.toArray] L (fun v L' => v = .bool b ∧ L' = L) := xf_right x.q b hb x.p x.c (by omega) hg.ct hg.pd
theorem xf_rrightP {W : World} {L : List Blk} (x : Pb) (b : Bool) (hb : decide x.q.Right = b) (hg : x.q.Rg) (b1 : x.q.bd.length ≤ 1000000) : XF Try.prog W 74 #[.agg x.enc.toArray] L (fun v L' => v = .bool b ∧ L' = L) := xf_rright x.q b hb x.p x.c (by omega) hg.ct hg.pd
theorem putP_le (q : Pc) (hg : q.Rg) (hR : q.Right) : (putP q).length ≤ 262144 := by
  have h1 := putP_len q hg
  have h2 := hR.2.2.2
  omega
/-- What a join answers. -/
def JnM (L : List Blk) (z : List Int × Int) (v : Value) (L' : List Blk) : Prop :=
  ∃ s k l, v = .tuple #[.slice s z.1.length k, .int .i64 z.2] ∧ SlO 1 5 (.slice s z.1.length k) z.1.length (ints .u8 z.1) l ∧ L' = l ++ L
theorem JnM.err {L : List Blk} (e : Int) : JnM L ([], e) (.tuple #[.slice none 0 0, .int .i64 e]) L := ⟨none, 0, [], rfl, SlO.nil, rfl⟩
structure JnS where
  i : Nat
  s : Option Addr
  k : Nat
  l : List Blk
structure JnI (xs : List Pb) (z : JnS) : Prop where
  le : z.i ≤ xs.length
  ok : ∀ j (h : j < xs.length), j < z.i → xs[j].q.Right ∧ (0 < xs[j].q.pd → j + 1 = xs.length)
  few : ((xs.take z.i).flatMap (fun x => putP x.q)).length ≤ z.i * 262144
  sl : SlO 1 5 (.slice z.s ((xs.take z.i).flatMap (fun x => putP x.q)).length z.k) ((xs.take z.i).flatMap (fun x => putP x.q)).length (ints .u8 ((xs.take z.i).flatMap (fun x => putP x.q))) z.l
theorem okJ_false {xs : List Pb} (i : Nat) (h : i < xs.length) (hn : ¬ (xs[i].q.Right ∧ (0 < xs[i].q.pd → i + 1 = xs.length))) : okJ (xs.map Pb.q) = false := by
  cases he : okJ (xs.map Pb.q) with
  | false => rfl
  | true =>
    have := (okJ_iff _).1 he i (by simpa using h)
    simp only [List.getElem_map, List.length_map] at this
    exact absurd this hn
theorem okJ_true {xs : List Pb} (h : ∀ j (h : j < xs.length), xs[j].q.Right ∧ (0 < xs[j].q.pd → j + 1 = xs.length)) : okJ (xs.map Pb.q) = true := by
  rw [okJ_iff]
  intro i hi
  simp only [List.getElem_map, List.length_map] at hi ⊢
  exact h i hi
set_option maxHeartbeats 4000000 in
theorem xf_join {W : World} {L : List Blk} (p : Option Addr) (n c : Nat) (xs : List Pb) (hx : xs.length = n) (hA : PbR W L p xs) (hn : n ≤ 1000000) :
    XF Try.prog W 47 #[.slice p n c] L (JnM L (joinL (xs.map Pb.q))) := by
  refine xf_enter (args := [_]) Try.func47 rfl Try.ntmps47 rfl ?_
  by_cases hn0 : n = 0
  · have : xs = [] := List.length_eq_zero_iff.1 (by omega)
    subst this
    focus
      refine xc_seq ?_
      refine xc_region ?_
      refine xo_rd (rd_assign rfl) rfl ?_
      refine xo_rd (rd_assign rfl) rfl ?_
      refine xo_nil ?_
      refine xq_seq ?_
      refine xc_seq ?_
      refine xc_seq ?_
      refine xc_region ?_
      refine xo_rd (rd_move rfl) rfl ?_
      refine xo_rd (rd_len rfl) rfl ?_
      refine xo_rd (rd_eql rfl rfl) rfl ?_
      refine xo_nil ?_
      refine xq_seq ?_
      refine xc_dec rfl (fun h1 => ?_) (fun h1 => (by exfalso; omega))
      refine xc_seq ?_
      refine xc_region ?_
      refine xo_rd (rd_assign rfl) rfl ?_
      refine xo_rd (rd_assign rfl) rfl ?_
      refine xo_nil ?_
      refine xq_seq ?_
      refine xc_ret ?_
      refine xq_then_ret ?_
    exact xq_ret2 (.inl rfl) Try.results47 rfl rfl (JnM.err 2)
  have hne : ¬ xs.map Pb.q = [] := fun h => by have := congrArg List.length h; simp at this; rw [this] at hx; simp at hx; omega
  have herr : okJ (xs.map Pb.q) = false → joinL (xs.map Pb.q) = ([], 2) := fun h => by unfold joinL; rw [if_neg hne, if_neg (by rw [h]; decide)]
  obtain ⟨b, o, hp, hc1⟩ := hA.rs.rows Pb.len (by decide) (by omega)
  subst hp
  focus
    refine xc_seq ?_
    refine xc_region ?_
    refine xo_rd (rd_assign rfl) rfl ?_
    refine xo_rd (rd_assign rfl) rfl ?_
    refine xo_nil ?_
    refine xq_seq ?_
    refine xc_seq ?_
    refine xc_seq ?_
    refine xc_region ?_
    refine xo_rd (rd_move rfl) rfl ?_
    refine xo_rd (rd_len rfl) rfl ?_
    refine xo_rd (rd_eql rfl rfl) rfl ?_
    refine xo_nil ?_
    refine xq_seq ?_
    refine xc_dec rfl (fun h1 => (by exfalso; omega)) (fun h1 => ?_)
    refine xc_skip ?_
    refine xq_seq ?_
    refine xc_seq ?_
    refine xc_region ?_
    refine xo_rd (rd_assign rfl) rfl ?_
    refine xo_nil ?_
    refine xq_seq ?_
    refine xc_seq ?_
    refine xc_seq ?_
    refine xc_region ?_
    refine xo_rd (rd_move rfl) rfl ?_
    refine xo_rd (rd_len rfl) rfl ?_
    refine xo_rd (rd_move rfl) rfl ?_
    refine xo_nil ?_
    refine xq_seq ?_
    refine xc_block ?_
  refine xc_loopI (ι := JnS) (JnI xs) (fun z => n - z.i) (fun z => z.l ++ L) (fun z => [(0, .slice (some ⟨b, o, none⟩) n c), (4, .slice z.s ((xs.take z.i).flatMap (fun x => putP x.q)).length z.k), (10, .slice (some ⟨b, o, none⟩) n c), (11, .int .i64 n), (12, .int .i64 z.i)]) ⟨0, none, 0, []⟩ ⟨Nat.zero_le _, (fun j h hj => absurd hj (Nat.not_lt_zero _)), Nat.zero_le _, SlO.nil⟩ rfl (by repeat (first | exact keep_nil | refine keep_cons rfl ?_)) ?_
  rintro ⟨i, s, k, l⟩ ⟨hle, hok, hfew, hsl⟩
  dsimp only at hle hok hfew hsl ⊢
  by_cases hin : i < n
  · have hci := hc1 i (by omega)
    have e1 : xs[i]? = some xs[i] := List.getElem?_eq_getElem (by omega)
    have k1 := hA.bd xs[i] (List.getElem_mem _)
    have k3 := hA.rg xs[i] (List.getElem_mem _)
    have k5 := hA.few xs[i] (List.getElem_mem _)
    have hbad := okJ_false (xs := xs) i (by omega)
    have htk : xs.take (i + 1) = xs.take i ++ [xs[i]] := by rw [List.take_add_one, e1]; rfl
    have hok' : xs[i].q.Right → (0 < xs[i].q.pd → i + 1 = xs.length) → ∀ j (h : j < xs.length), j < i + 1 → xs[j].q.Right ∧ (0 < xs[j].q.pd → j + 1 = xs.length) := fun h1 h2 j hj hji => by
      by_cases hji2 : j < i
      · exact hok j hj hji2
      · obtain rfl : j = i := by omega
        exact ⟨h1, h2⟩
    generalize xs[i] = x at *
    have hcI : ∀ L', (∀ z, z ∈ L → z ∈ L') → ∀ (j : Nat) (u : Value), x.enc[j]? = some u → Cl W L' b (o + (i : Int).toNat * 4 + j) u := fun L' h j u hj => (hci j u hj).mono h
    obtain ⟨rb, hrb⟩ : ∃ r, decide x.q.Right = r := ⟨_, rfl⟩
    have hl0 : ((xs.take i).flatMap (fun x => putP x.q)).length ≤ 262144000000 := by omega
    by_cases hgood : x.q.Right ∧ (0 < x.q.pd → i + 1 = xs.length)
    · obtain ⟨hR, hlast⟩ := hgood
      have hpl := putP_le x.q k3 hR
      have hfl : (xs.take (i + 1)).flatMap (fun x => putP x.q) = (xs.take i).flatMap (fun x => putP x.q) ++ putP x.q := by rw [htk, List.flatMap_append, List.flatMap_singleton]
      have hll : ((xs.take (i + 1)).flatMap (fun x => putP x.q)).length = ((xs.take i).flatMap (fun x => putP x.q)).length + (putP x.q).length := by rw [hfl, List.length_append]
      focus
        refine xc_seq ?_
        refine xc_region ?_
        refine xo_rd (rd_lss rfl rfl) rfl ?_
        refine xo_nil ?_
        refine xq_seq ?_
        refine xc_seq ?_
        refine xc_dec rfl (fun hq1 => ?_) (fun hq1 => (by exfalso; omega))
        refine xc_skip ?_
        refine xq_seq ?_
        refine xc_seq ?_
        refine xc_block ?_
        refine xc_seq ?_
        refine xc_region ?_
        refine xo_rd (rd_move rfl) rfl ?_
        refine xo_rd (rd_indexAddr rfl rfl (by omega) (by omega)) rfl ?_
        refine xo_rd (rd_loadA (vs := x.enc) rfl rfl (hcI _ (by intro z hz; simp [hz]))) rfl ?_
        refine xo_ef rfl (ef_alloc fun r6 => ?_)
        refine xo_rd (rd_assign rfl) rfl ?_
        refine xo_ef rfl (ef_storeB [] _ rfl rfl (by first | rfl | assumption) rfl rfl rfl ?_)
        refine xo_nil ?_
        refine xq_seq ?_
        refine xc_seq ?_
        refine xc_seq ?_
        refine xc_region ?_
        refine xo_rd (rd_loadB rfl Kn.o0 (by rfl)) rfl ?_
        refine xo_ef rfl (ef_call rfl (XF.mono (xf_rightP x true (decide_eq_true hR) k3 k5) ?_))
        rintro v L' ⟨rfl, rfl⟩
        refine xo_rd (rd_not rfl) rfl ?_
        refine xo_rd (rd_move rfl) rfl ?_
        refine xo_grd rfl rfl (rd_fieldAddr rfl) rfl ?_
        refine xo_grd rfl rfl (rd_load1 rfl (Cl.o0 rfl)) rfl ?_
        refine xo_grd rfl rfl (rd_gtr rfl rfl) rfl ?_
        refine xo_grd rfl rfl (rd_move rfl) rfl ?_
        refine xo_dec 24 rfl (fun hq2 => ?_) (fun hq2 => ?_)
        refine xo_grd rfl rfl (rd_move rfl) rfl ?_
        refine xo_grd rfl rfl (rd_move rfl) rfl ?_
        refine xo_grd rfl rfl (rd_len rfl) rfl ?_
        refine xo_grd rfl rfl (rd_subn rfl rfl (by omega) (by omega)) rfl ?_
        refine xo_grd rfl rfl (rd_lss rfl rfl) rfl ?_
        refine xo_grd rfl rfl (rd_pickt rfl rfl) rfl ?_
        refine xo_rd (rd_pickf rfl rfl) rfl ?_
        refine xo_nil ?_
        refine xq_seq ?_
        refine xc_dec rfl (fun hq3 => (by exfalso; omega)) (fun hq3 => ?_)
        refine xc_skip ?_
        refine xq_seq ?_
        refine xc_region ?_
        refine xo_rd (rd_move rfl) rfl ?_
        refine xo_rd (rd_loadB rfl Kn.o0 (by rfl)) rfl ?_
        refine xo_ef rfl (ef_call rfl (XF.mono (xf_mput x (k1.mono (by intro z hz; simp [hz])) k3 hR) ?_))
        rintro v L' ⟨s2, k2, l2, rfl, hO2, rfl⟩
        refine xo_ef rfl (ef_appendG (l2 ++ [(r6, .cells x.enc.toArray 81 (0, 0))]) L l (news := ints .u8 (putP x.q)) rfl rfl hsl (by simp) (hO2.rs (by intro z hz; simp [hz])) (by rw [ints_len, Nat.mul_one]) (ints_one _ _) (by decide) (by omega) (by omega) fun s3 k3' l3 hO3 hk3 => ?_)
        refine xo_rd (rd_assign rfl) rfl ?_
        refine xo_nil ?_
        refine xq_block ?_
        refine xq_seq ?_
        refine xc_region ?_
        refine xo_rd (rd_addn rfl rfl (by omega) (by omega)) rfl ?_
        refine xo_rd (rd_move rfl) rfl ?_
        refine xo_nil ?_
        rotate_left
        refine xo_gskip rfl rfl rfl rfl ?_
        refine xo_gskip rfl rfl rfl rfl ?_
        refine xo_gskip rfl rfl rfl rfl ?_
        refine xo_gskip rfl rfl rfl rfl ?_
        refine xo_gskip rfl rfl rfl rfl ?_
        refine xo_grd rfl rfl (rd_pickf rfl rfl) rfl ?_
        refine xo_rd (rd_pickf rfl rfl) rfl ?_
        refine xo_nil ?_
        refine xq_seq ?_
        refine xc_condf rfl ?_
        refine xc_skip ?_
        refine xq_seq ?_
        refine xc_region ?_
        refine xo_rd (rd_move rfl) rfl ?_
        refine xo_rd (rd_loadB rfl Kn.o0 (by rfl)) rfl ?_
        refine xo_ef rfl (ef_call rfl (XF.mono (xf_mput x (k1.mono (by intro z hz; simp [hz])) k3 hR) ?_))
        rintro v L' ⟨s2, k2, l2, rfl, hO2, rfl⟩
        refine xo_ef rfl (ef_appendG (l2 ++ [(r6, .cells x.enc.toArray 81 (0, 0))]) L l (news := ints .u8 (putP x.q)) rfl rfl hsl (by simp) (hO2.rs (by intro z hz; simp [hz])) (by rw [ints_len, Nat.mul_one]) (ints_one _ _) (by decide) (by omega) (by omega) fun s3 k3' l3 hO3 hk3 => ?_)
        refine xo_rd (rd_assign rfl) rfl ?_
        refine xo_nil ?_
        refine xq_block ?_
        refine xq_seq ?_
        refine xc_region ?_
        refine xo_rd (rd_addn rfl rfl (by omega) (by omega)) rfl ?_
        refine xo_rd (rd_move rfl) rfl ?_
        refine xo_nil ?_
        rotate_left
      all_goals refine xq_roundI (⟨i + 1, s3, k3', l3⟩ : JnS) ⟨by dsimp only; omega, hok' hR hlast, by dsimp only; rw [hll]; omega, ?_⟩ (by dsimp only; omega) rfl ?_
      all_goals dsimp only
      all_goals rw [hll]
      all_goals first | (rw [hfl, ints_app]; exact hO3) | exact (by repeat (first | exact keep_nil | refine keep_cons rfl ?_))
    · have hb2 := herr (hbad hgood)
      rw [hb2]
      obtain ⟨rb, hrb⟩ : ∃ r, decide x.q.Right = r := ⟨_, rfl⟩
      have hcon : rb = true → 0 < x.q.pd ∧ i + 1 < n := fun h => by
        rw [h] at hrb
        have hR := of_decide_eq_true hrb
        refine ⟨?_, ?_⟩
        · by_cases h0 : 0 < x.q.pd
          · exact h0
          · exact absurd ⟨hR, fun h => absurd h h0⟩ hgood
        · by_cases h0 : i + 1 = xs.length
          · exact absurd ⟨hR, fun _ => h0⟩ hgood
          · omega
      cases rb with
      | true =>
        have := hcon rfl
        focus
          refine xc_seq ?_
          refine xc_region ?_
          refine xo_rd (rd_lss rfl rfl) rfl ?_
          refine xo_nil ?_
          refine xq_seq ?_
          refine xc_seq ?_
          refine xc_dec rfl (fun hq1 => ?_) (fun hq1 => (by exfalso; omega))
          refine xc_skip ?_
          refine xq_seq ?_
          refine xc_seq ?_
          refine xc_block ?_
          refine xc_seq ?_
          refine xc_region ?_
          refine xo_rd (rd_move rfl) rfl ?_
          refine xo_rd (rd_indexAddr rfl rfl (by omega) (by omega)) rfl ?_
          refine xo_rd (rd_loadA (vs := x.enc) rfl rfl (hcI _ (by intro z hz; simp [hz]))) rfl ?_
          refine xo_ef rfl (ef_alloc fun r6 => ?_)
          refine xo_rd (rd_assign rfl) rfl ?_
          refine xo_ef rfl (ef_storeB [] _ rfl rfl (by first | rfl | assumption) rfl rfl rfl ?_)
          refine xo_nil ?_
          refine xq_seq ?_
          refine xc_seq ?_
          refine xc_seq ?_
          refine xc_region ?_
          refine xo_rd (rd_loadB rfl Kn.o0 (by rfl)) rfl ?_
          refine xo_ef rfl (ef_call rfl (XF.mono (xf_rightP x _ hrb k3 k5) ?_))
          rintro v L' ⟨rfl, rfl⟩
          refine xo_rd (rd_not rfl) rfl ?_
          refine xo_rd (rd_move rfl) rfl ?_
          refine xo_grd rfl rfl (rd_fieldAddr rfl) rfl ?_
          refine xo_grd rfl rfl (rd_load1 rfl (Cl.o0 rfl)) rfl ?_
          refine xo_grd rfl rfl (rd_gtr rfl rfl) rfl ?_
          refine xo_grd rfl rfl (rd_move rfl) rfl ?_
          refine xo_dec 24 rfl (fun hq2 => ?_) (fun hq2 => (by exfalso; omega))
          refine xo_grd rfl rfl (rd_move rfl) rfl ?_
          refine xo_grd rfl rfl (rd_move rfl) rfl ?_
          refine xo_grd rfl rfl (rd_len rfl) rfl ?_
          refine xo_grd rfl rfl (rd_subn rfl rfl (by omega) (by omega)) rfl ?_
          refine xo_grd rfl rfl (rd_lss rfl rfl) rfl ?_
          refine xo_grd rfl rfl (rd_pickt rfl rfl) rfl ?_
          refine xo_rd (rd_pickf rfl rfl) rfl ?_
          refine xo_nil ?_
          refine xq_seq ?_
          refine xc_dec rfl (fun hq3 => ?_) (fun hq3 => (by exfalso; omega))
          refine xc_seq ?_
          refine xc_region ?_
          refine xo_rd (rd_assign rfl) rfl ?_
          refine xo_rd (rd_assign rfl) rfl ?_
          refine xo_nil ?_
          refine xq_seq ?_
          refine xc_ret ?_
          refine xq_then_ret ?_
          refine xq_block_ret ?_
          refine xq_then_ret ?_
          refine xq_then_ret ?_
          refine xq_block_ret ?_
          refine xq_then_ret ?_
        all_goals exact xq_sub ((List.sublist_append_right l L).trans (List.sublist_cons_self _ _)) (xq_ret2 (.inl rfl) Try.results47 rfl rfl (JnM.err 2))
      | false =>
        focus
          refine xc_seq ?_
          refine xc_region ?_
          refine xo_rd (rd_lss rfl rfl) rfl ?_
          refine xo_nil ?_
          refine xq_seq ?_
          refine xc_seq ?_
          refine xc_dec rfl (fun hq1 => ?_) (fun hq1 => (by exfalso; omega))
          refine xc_skip ?_
          refine xq_seq ?_
          refine xc_seq ?_
          refine xc_block ?_
          refine xc_seq ?_
          refine xc_region ?_
          refine xo_rd (rd_move rfl) rfl ?_
          refine xo_rd (rd_indexAddr rfl rfl (by omega) (by omega)) rfl ?_
          refine xo_rd (rd_loadA (vs := x.enc) rfl rfl (hcI _ (by intro z hz; simp [hz]))) rfl ?_
          refine xo_ef rfl (ef_alloc fun r6 => ?_)
          refine xo_rd (rd_assign rfl) rfl ?_
          refine xo_ef rfl (ef_storeB [] _ rfl rfl (by first | rfl | assumption) rfl rfl rfl ?_)
          refine xo_nil ?_
          refine xq_seq ?_
          refine xc_seq ?_
          refine xc_seq ?_
          refine xc_region ?_
          refine xo_rd (rd_loadB rfl Kn.o0 (by rfl)) rfl ?_
          refine xo_ef rfl (ef_call rfl (XF.mono (xf_rightP x _ hrb k3 k5) ?_))
          rintro v L' ⟨rfl, rfl⟩
          refine xo_rd (rd_not rfl) rfl ?_
          refine xo_rd (rd_move rfl) rfl ?_
          refine xo_gskip rfl rfl rfl rfl ?_
          refine xo_gskip rfl rfl rfl rfl ?_
          refine xo_gskip rfl rfl rfl rfl ?_
          refine xo_gskip rfl rfl rfl rfl ?_
          refine xo_gskipU rfl rfl rfl ?_
          refine xo_gskipU rfl rfl rfl ?_
          refine xo_gskipU rfl rfl rfl ?_
          refine xo_gskipU rfl rfl rfl ?_
          refine xo_gskipU rfl rfl rfl ?_
          refine xo_gskip rfl rfl rfl rfl ?_
          refine xo_rd (rd_pickt rfl rfl) rfl ?_
          refine xo_nil ?_
          refine xq_seq ?_
          refine xc_condt rfl ?_
          refine xc_seq ?_
          refine xc_region ?_
          refine xo_rd (rd_assign rfl) rfl ?_
          refine xo_rd (rd_assign rfl) rfl ?_
          refine xo_nil ?_
          refine xq_seq ?_
          refine xc_ret ?_
          refine xq_then_ret ?_
          refine xq_block_ret ?_
          refine xq_then_ret ?_
          refine xq_then_ret ?_
          refine xq_block_ret ?_
          refine xq_then_ret ?_
        all_goals exact xq_sub ((List.sublist_append_right l L).trans (List.sublist_cons_self _ _)) (xq_ret2 (.inl rfl) Try.results47 rfl rfl (JnM.err 2))
  · have hin' : i = n := by omega
    subst hin'
    rw [List.take_of_length_le (by omega)] at hsl hfew ⊢
    have hko := okJ_true fun j h => hok j h (by omega)
    obtain ⟨x0, xr, hxs⟩ : ∃ x0 xr, xs = x0 :: xr := by
      cases xs with
      | nil => exact absurd hx.symm hn0
      | cons a t => exact ⟨a, t, rfl⟩
    have hk0 : kind0 (xs.map Pb.q) = x0.q.kd := by rw [hxs]; rfl
    have hc0 : ∀ L', (∀ z, z ∈ L → z ∈ L') → Cl W L' b (o + Int.toNat 0 * 4 + 1) (.int .u8 x0.q.kd) := fun L' h => by
      have h0 : xs[0]'(by omega) = x0 := by simp only [hxs]; rfl
      have := (hc1 0 (by omega) 1 _ rfl).mono h
      rw [h0] at this
      exact this
    obtain ⟨fb, hfb⟩ : ∃ r, isFirst x0.q.kd = r := ⟨_, rfl⟩
    have hjl : joinL (xs.map Pb.q) = if fb = true then ((xs.map Pb.q).flatMap putP, 0) else ([], 60) := by
      unfold joinL
      rw [if_neg hne, if_pos hko, hk0, hfb]
    have hfm : (xs.map Pb.q).flatMap putP = xs.flatMap (fun x => putP x.q) := by rw [List.flatMap_map]
    rw [hjl, hfm]
    cases fb with
    | true =>
      focus
        refine xc_seq ?_
        refine xc_region ?_
        refine xo_rd (rd_lss rfl rfl) rfl ?_
        refine xo_nil ?_
        refine xq_seq ?_
        refine xc_seq ?_
        refine xc_dec rfl (fun hq1 => (by exfalso; omega)) (fun hq1 => ?_)
        refine xc_exit ?_
        refine xq_then_exit ?_
        refine xq_then_exit ?_
        refine xq_block_hit ?_
        refine xq_seq ?_
        refine xc_seq ?_
        refine xc_seq ?_
        refine xc_region ?_
        refine xo_rd (rd_move rfl) rfl ?_
        refine xo_rd (rd_indexAddr rfl rfl (by omega) (by omega)) rfl ?_
        refine xo_rd (rd_fieldAddr rfl) rfl ?_
        refine xo_rd (rd_load1 rfl (hc0 _ (by intro z hz; simp [hz]))) rfl ?_
        refine xo_ef rfl (ef_call rfl (XF.mono (xf_isFirst x0.q.kd _ hfb) ?_))
        rintro v L' ⟨rfl, rfl⟩
        refine xo_rd (rd_not rfl) rfl ?_
        refine xo_nil ?_
        refine xq_seq ?_
        refine xc_condf rfl ?_
        refine xc_skip ?_
        refine xq_seq ?_
        refine xc_seq ?_
        refine xc_region ?_
        refine xo_rd (rd_move rfl) rfl ?_
        refine xo_rd (rd_assign rfl) rfl ?_
        refine xo_rd (rd_assign rfl) rfl ?_
        refine xo_nil ?_
        refine xq_seq ?_
        refine xc_ret ?_
      exact xq_ret2 (.inl rfl) Try.results47 rfl rfl ⟨s, k, l, rfl, hsl, rfl⟩
    | false =>
      focus
        refine xc_seq ?_
        refine xc_region ?_
        refine xo_rd (rd_lss rfl rfl) rfl ?_
        refine xo_nil ?_
        refine xq_seq ?_
        refine xc_seq ?_
        refine xc_dec rfl (fun hq1 => (by exfalso; omega)) (fun hq1 => ?_)
        refine xc_exit ?_
        refine xq_then_exit ?_
        refine xq_then_exit ?_
        refine xq_block_hit ?_
        refine xq_seq ?_
        refine xc_seq ?_
        refine xc_seq ?_
        refine xc_region ?_
        refine xo_rd (rd_move rfl) rfl ?_
        refine xo_rd (rd_indexAddr rfl rfl (by omega) (by omega)) rfl ?_
        refine xo_rd (rd_fieldAddr rfl) rfl ?_
        refine xo_rd (rd_load1 rfl (hc0 _ (by intro z hz; simp [hz]))) rfl ?_
        refine xo_ef rfl (ef_call rfl (XF.mono (xf_isFirst x0.q.kd _ hfb) ?_))
        rintro v L' ⟨rfl, rfl⟩
        refine xo_rd (rd_not rfl) rfl ?_
        refine xo_nil ?_
        refine xq_seq ?_
        refine xc_condt rfl ?_
        refine xc_seq ?_
        refine xc_region ?_
        refine xo_rd (rd_assign rfl) rfl ?_
        refine xo_rd (rd_assign rfl) rfl ?_
        refine xo_nil ?_
        refine xq_seq ?_
        refine xc_ret ?_
        refine xq_then_ret ?_
      exact xq_sub (List.sublist_append_right l L) (xq_ret2 (.inl rfl) Try.results47 rfl rfl (JnM.err 60))
end Go.Proofs.Ytogilblilljpmaa.X
/-
  The reference joins packets: a walk of my own.
-/
namespace Go.Proofs.Ytogilblilljpmaa.X
open Go Go.RowKit
set_option linter.unusedVariables false
set_option linter.unusedSimpArgs false
set_option maxHeartbeats 4000000 in
theorem xf_rjoin {W : World} {L : List Blk} (p : Option Addr) (n c : Nat) (xs : List Pb) (hx : xs.length = n) (hA : PbR W L p xs) (hn : n ≤ 1000000) :
    XF Try.prog W 53 #[.slice p n c] L (JnM L (joinL (xs.map Pb.q))) := by
  refine xf_enter (args := [_]) Try.func53 rfl Try.ntmps53 rfl ?_
  by_cases hn0 : n = 0
  · have : xs = [] := List.length_eq_zero_iff.1 (by omega)
    subst this
    focus
      refine xc_seq ?_
      refine xc_region ?_
      refine xo_rd (rd_assign rfl) rfl ?_
      refine xo_rd (rd_assign rfl) rfl ?_
      refine xo_nil ?_
      refine xq_seq ?_
      refine xc_seq ?_
      refine xc_seq ?_
      refine xc_region ?_
      refine xo_rd (rd_move rfl) rfl ?_
      refine xo_rd (rd_len rfl) rfl ?_
      refine xo_rd (rd_eql rfl rfl) rfl ?_
      refine xo_nil ?_
      refine xq_seq ?_
      refine xc_dec rfl (fun h1 => ?_) (fun h1 => (by exfalso; omega))
      refine xc_seq ?_
      refine xc_region ?_
      refine xo_rd (rd_assign rfl) rfl ?_
      refine xo_rd (rd_assign rfl) rfl ?_
      refine xo_nil ?_
      refine xq_seq ?_
      refine xc_ret ?_
      refine xq_then_ret ?_
    exact xq_ret2 (.inl rfl) Try.results53 rfl rfl (JnM.err 2)
  have hne : ¬ xs.map Pb.q = [] := fun h => by have := congrArg List.length h; simp at this; rw [this] at hx; simp at hx; omega
  have herr : okJ (xs.map Pb.q) = false → joinL (xs.map Pb.q) = ([], 2) := fun h => by unfold joinL; rw [if_neg hne, if_neg (by rw [h]; decide)]
  obtain ⟨b, o, hp, hc1⟩ := hA.rs.rows Pb.len (by decide) (by omega)
  subst hp
  focus
    refine xc_seq ?_
    refine xc_region ?_
    refine xo_rd (rd_assign rfl) rfl ?_
    refine xo_rd (rd_assign rfl) rfl ?_
    refine xo_nil ?_
    refine xq_seq ?_
    refine xc_seq ?_
    refine xc_seq ?_
    refine xc_region ?_
    refine xo_rd (rd_move rfl) rfl ?_
    refine xo_rd (rd_len rfl) rfl ?_
    refine xo_rd (rd_eql rfl rfl) rfl ?_
    refine xo_nil ?_
    refine xq_seq ?_
    refine xc_dec rfl (fun h1 => (by exfalso; omega)) (fun h1 => ?_)
    refine xc_skip ?_
    refine xq_seq ?_
    refine xc_seq ?_
    refine xc_region ?_
    refine xo_rd (rd_assign rfl) rfl ?_
    refine xo_nil ?_
    refine xq_seq ?_
    refine xc_seq ?_
    refine xc_seq ?_
    refine xc_region ?_
    refine xo_rd (rd_assign rfl) rfl ?_
    refine xo_nil ?_
    refine xq_seq ?_
    refine xc_block ?_
  refine xc_loopI (ι := JnS) (JnI xs) (fun z => n - z.i) (fun z => z.l ++ L) (fun z => [(0, .slice (some ⟨b, o, none⟩) n c), (4, .slice z.s ((xs.take z.i).flatMap (fun x => putP x.q)).length z.k), (5, .int .i64 z.i)]) ⟨0, none, 0, []⟩ ⟨Nat.zero_le _, (fun j h hj => absurd hj (Nat.not_lt_zero _)), Nat.zero_le _, SlO.nil⟩ rfl (by repeat (first | exact keep_nil | refine keep_cons rfl ?_)) ?_
  rintro ⟨i, s, k, l⟩ ⟨hle, hok, hfew, hsl⟩
  dsimp only at hle hok hfew hsl ⊢
  by_cases hin : i < n
  · have hci := hc1 i (by omega)
    have e1 : xs[i]? = some xs[i] := List.getElem?_eq_getElem (by omega)
    have k1 := hA.bd xs[i] (List.getElem_mem _)
    have k3 := hA.rg xs[i] (List.getElem_mem _)
    have k5 := hA.few xs[i] (List.getElem_mem _)
    have hbad := okJ_false (xs := xs) i (by omega)
    have htk : xs.take (i + 1) = xs.take i ++ [xs[i]] := by rw [List.take_add_one, e1]; rfl
    have hok' : xs[i].q.Right → (0 < xs[i].q.pd → i + 1 = xs.length) → ∀ j (h : j < xs.length), j < i + 1 → xs[j].q.Right ∧ (0 < xs[j].q.pd → j + 1 = xs.length) := fun h1 h2 j hj hji => by
      by_cases hji2 : j < i
      · exact hok j hj hji2
      · obtain rfl : j = i := by omega
        exact ⟨h1, h2⟩
    generalize xs[i] = x at *
    have hcI : ∀ L', (∀ z, z ∈ L → z ∈ L') → ∀ (j : Nat) (u : Value), x.enc[j]? = some u → Cl W L' b (o + (i : Int).toNat * 4 + j) u := fun L' h j u hj => (hci j u hj).mono h
    obtain ⟨rb, hrb⟩ : ∃ r, decide x.q.Right = r := ⟨_, rfl⟩
    have hl0 : ((xs.take i).flatMap (fun x => putP x.q)).length ≤ 262144000000 := by omega
    by_cases hgood : x.q.Right ∧ (0 < x.q.pd → i + 1 = xs.length)
    · obtain ⟨hR, hlast⟩ := hgood
      have hpl := putP_le x.q k3 hR
      have hfl : (xs.take (i + 1)).flatMap (fun x => putP x.q) = (xs.take i).flatMap (fun x => putP x.q) ++ putP x.q := by rw [htk, List.flatMap_append, List.flatMap_singleton]
      have hll : ((xs.take (i + 1)).flatMap (fun x => putP x.q)).length = ((xs.take i).flatMap (fun x => putP x.q)).length + (putP x.q).length := by rw [hfl, List.length_append]
      focus
        refine xc_seq ?_
        refine xc_seq ?_
        refine xc_region ?_
        refine xo_rd (rd_move rfl) rfl ?_
        refine xo_rd (rd_move rfl) rfl ?_
        refine xo_rd (rd_len rfl) rfl ?_
        refine xo_rd (rd_lss rfl rfl) rfl ?_
        refine xo_nil ?_
        refine xq_seq ?_
        refine xc_dec rfl (fun hq1 => ?_) (fun hq1 => (by exfalso; omega))
        refine xc_skip ?_
        refine xq_seq ?_
        refine xc_seq ?_
        refine xc_block ?_
        refine xc_seq ?_
        refine xc_seq ?_
        refine xc_region ?_
        refine xo_rd (rd_move rfl) rfl ?_
        refine xo_rd (rd_move rfl) rfl ?_
        refine xo_rd (rd_indexAddr rfl rfl (by omega) (by omega)) rfl ?_
        refine xo_rd (rd_loadA (vs := x.enc) rfl rfl (hcI _ (by intro z hz; simp [hz]))) rfl ?_
        refine xo_ef rfl (ef_call rfl (XF.mono (xf_rrightP x true (decide_eq_true hR) k3 k5) ?_))
        rintro v L' ⟨rfl, rfl⟩
        refine xo_rd (rd_not rfl) rfl ?_
        refine xo_rd (rd_move rfl) rfl ?_
        refine xo_grd rfl rfl (rd_move rfl) rfl ?_
        refine xo_grd rfl rfl (rd_move rfl) rfl ?_
        refine xo_grd rfl rfl (rd_indexAddr rfl rfl (by omega) (by omega)) rfl ?_
        refine xo_grd rfl rfl (rd_fieldAddr rfl) rfl ?_
        refine xo_grd rfl rfl (rd_load1 rfl (hcI _ (by intro z hz; simp [hz]) 3 (.int .u8 x.q.pd) rfl)) rfl ?_
        refine xo_grd rfl rfl (rd_gtr rfl rfl) rfl ?_
        refine xo_grd rfl rfl (rd_move rfl) rfl ?_
        refine xo_dec 28 rfl (fun hq2 => ?_) (fun hq2 => ?_)
        refine xo_grd rfl rfl (rd_move rfl) rfl ?_
        refine xo_grd rfl rfl (rd_addn rfl rfl (by omega) (by omega)) rfl ?_
        refine xo_grd rfl rfl (rd_move rfl) rfl ?_
        refine xo_grd rfl rfl (rd_len rfl) rfl ?_
        refine xo_grd rfl rfl (rd_lss rfl rfl) rfl ?_
        refine xo_grd rfl rfl (rd_pickt rfl rfl) rfl ?_
        refine xo_rd (rd_pickf rfl rfl) rfl ?_
        refine xo_nil ?_
        refine xq_seq ?_
        refine xc_dec rfl (fun hq3 => (by exfalso; omega)) (fun hq3 => ?_)
        refine xc_skip ?_
        refine xq_seq ?_
        refine xc_region ?_
        refine xo_rd (rd_move rfl) rfl ?_
        refine xo_rd (rd_move rfl) rfl ?_
        refine xo_rd (rd_move rfl) rfl ?_
        refine xo_rd (rd_indexAddr rfl rfl (by omega) (by omega)) rfl ?_
        refine xo_rd (rd_loadA (vs := x.enc) rfl rfl (hcI _ (by intro z hz; simp [hz]))) rfl ?_
        refine xo_ef rfl (ef_call rfl (XF.mono (xf_rput x (k1.mono (by intro z hz; simp [hz])) k3 hR) ?_))
        rintro v L' ⟨s2, k2, l2, rfl, hO2, rfl⟩
        refine xo_ef rfl (ef_appendG l2 L l (news := ints .u8 (putP x.q)) rfl rfl hsl rfl (hO2.rs (by intro z hz; simp [hz])) (by rw [ints_len, Nat.mul_one]) (ints_one _ _) (by decide) (by omega) (by omega) fun s3 k3' l3 hO3 hk3 => ?_)
        refine xo_rd (rd_assign rfl) rfl ?_
        refine xo_nil ?_
        refine xq_block ?_
        refine xq_seq ?_
        refine xc_region ?_
        refine xo_rd (rd_move rfl) rfl ?_
        refine xo_rd (rd_addn rfl rfl (by omega) (by omega)) rfl ?_
        refine xo_rd (rd_assign rfl) rfl ?_
        refine xo_nil ?_
        rotate_left
        refine xo_gskip rfl rfl rfl rfl ?_
        refine xo_gskip rfl rfl rfl rfl ?_
        refine xo_gskip rfl rfl rfl rfl ?_
        refine xo_gskip rfl rfl rfl rfl ?_
        refine xo_gskip rfl rfl rfl rfl ?_
        refine xo_grd rfl rfl (rd_pickf rfl rfl) rfl ?_
        refine xo_rd (rd_pickf rfl rfl) rfl ?_
        refine xo_nil ?_
        refine xq_seq ?_
        refine xc_condf rfl ?_
        refine xc_skip ?_
        refine xq_seq ?_
        refine xc_region ?_
        refine xo_rd (rd_move rfl) rfl ?_
        refine xo_rd (rd_move rfl) rfl ?_
        refine xo_rd (rd_move rfl) rfl ?_
        refine xo_rd (rd_indexAddr rfl rfl (by omega) (by omega)) rfl ?_
        refine xo_rd (rd_loadA (vs := x.enc) rfl rfl (hcI _ (by intro z hz; simp [hz]))) rfl ?_
        refine xo_ef rfl (ef_call rfl (XF.mono (xf_rput x (k1.mono (by intro z hz; simp [hz])) k3 hR) ?_))
        rintro v L' ⟨s2, k2, l2, rfl, hO2, rfl⟩
        refine xo_ef rfl (ef_appendG l2 L l (news := ints .u8 (putP x.q)) rfl rfl hsl rfl (hO2.rs (by intro z hz; simp [hz])) (by rw [ints_len, Nat.mul_one]) (ints_one _ _) (by decide) (by omega) (by omega) fun s3 k3' l3 hO3 hk3 => ?_)
        refine xo_rd (rd_assign rfl) rfl ?_
        refine xo_nil ?_
        refine xq_block ?_
        refine xq_seq ?_
        refine xc_region ?_
        refine xo_rd (rd_move rfl) rfl ?_
        refine xo_rd (rd_addn rfl rfl (by omega) (by omega)) rfl ?_
        refine xo_rd (rd_assign rfl) rfl ?_
        refine xo_nil ?_
        rotate_left
      all_goals refine xq_roundI (⟨i + 1, s3, k3', l3⟩ : JnS) ⟨by dsimp only; omega, hok' hR hlast, by dsimp only; rw [hll]; omega, ?_⟩ (by dsimp only; omega) rfl ?_
      all_goals dsimp only
      all_goals rw [hll]
      all_goals first | (rw [hfl, ints_app]; exact hO3) | exact (by repeat (first | exact keep_nil | refine keep_cons rfl ?_))
    · have hb2 := herr (hbad hgood)
      rw [hb2]
      obtain ⟨rb, hrb⟩ : ∃ r, decide x.q.Right = r := ⟨_, rfl⟩
      have hcon : rb = true → 0 < x.q.pd ∧ i + 1 < n := fun h => by
        rw [h] at hrb
        have hR := of_decide_eq_true hrb
        refine ⟨?_, ?_⟩
        · by_cases h0 : 0 < x.q.pd
          · exact h0
          · exact absurd ⟨hR, fun h => absurd h h0⟩ hgood
        · by_cases h0 : i + 1 = xs.length
          · exact absurd ⟨hR, fun _ => h0⟩ hgood
          · omega
      cases rb with
      | true =>
        have := hcon rfl
        focus
          refine xc_seq ?_
          refine xc_seq ?_
          refine xc_region ?_
          refine xo_rd (rd_move rfl) rfl ?_
          refine xo_rd (rd_move rfl) rfl ?_
          refine xo_rd (rd_len rfl) rfl ?_
          refine xo_rd (rd_lss rfl rfl) rfl ?_
          refine xo_nil ?_
          refine xq_seq ?_
          refine xc_dec rfl (fun hq1 => ?_) (fun hq1 => (by exfalso; omega))
          refine xc_skip ?_
          refine xq_seq ?_
          refine xc_seq ?_
          refine xc_block ?_
          refine xc_seq ?_
          refine xc_seq ?_
          refine xc_region ?_
          refine xo_rd (rd_move rfl) rfl ?_
          refine xo_rd (rd_move rfl) rfl ?_
          refine xo_rd (rd_indexAddr rfl rfl (by omega) (by omega)) rfl ?_
          refine xo_rd (rd_loadA (vs := x.enc) rfl rfl (hcI _ (by intro z hz; simp [hz]))) rfl ?_
          refine xo_ef rfl (ef_call rfl (XF.mono (xf_rrightP x _ hrb k3 k5) ?_))
          rintro v L' ⟨rfl, rfl⟩
          refine xo_rd (rd_not rfl) rfl ?_
          refine xo_rd (rd_move rfl) rfl ?_
          refine xo_grd rfl rfl (rd_move rfl) rfl ?_
          refine xo_grd rfl rfl (rd_move rfl) rfl ?_
          refine xo_grd rfl rfl (rd_indexAddr rfl rfl (by omega) (by omega)) rfl ?_
          refine xo_grd rfl rfl (rd_fieldAddr rfl) rfl ?_
          refine xo_grd rfl rfl (rd_load1 rfl (hcI _ (by intro z hz; simp [hz]) 3 (.int .u8 x.q.pd) rfl)) rfl ?_
          refine xo_grd rfl rfl (rd_gtr rfl rfl) rfl ?_
          refine xo_grd rfl rfl (rd_move rfl) rfl ?_
          refine xo_dec 28 rfl (fun hq2 => ?_) (fun hq2 => (by exfalso; omega))
          refine xo_grd rfl rfl (rd_move rfl) rfl ?_
          refine xo_grd rfl rfl (rd_addn rfl rfl (by omega) (by omega)) rfl ?_
          refine xo_grd rfl rfl (rd_move rfl) rfl ?_
          refine xo_grd rfl rfl (rd_len rfl) rfl ?_
          refine xo_grd rfl rfl (rd_lss rfl rfl) rfl ?_
          refine xo_grd rfl rfl (rd_pickt rfl rfl) rfl ?_
          refine xo_rd (rd_pickf rfl rfl) rfl ?_
          refine xo_nil ?_
          refine xq_seq ?_
          refine xc_dec rfl (fun hq3 => ?_) (fun hq3 => (by exfalso; omega))
          refine xc_seq ?_
          refine xc_region ?_
          refine xo_rd (rd_assign rfl) rfl ?_
          refine xo_rd (rd_assign rfl) rfl ?_
          refine xo_nil ?_
          refine xq_seq ?_
          refine xc_ret ?_
          refine xq_then_ret ?_
          refine xq_block_ret ?_
          refine xq_then_ret ?_
          refine xq_then_ret ?_
          refine xq_block_ret ?_
          refine xq_then_ret ?_
        all_goals exact xq_sub (List.sublist_append_right l L) (xq_ret2 (.inl rfl) Try.results53 rfl rfl (JnM.err 2))
      | false =>
        focus
          refine xc_seq ?_
          refine xc_seq ?_
          refine xc_region ?_
          refine xo_rd (rd_move rfl) rfl ?_
          refine xo_rd (rd_move rfl) rfl ?_
          refine xo_rd (rd_len rfl) rfl ?_
          refine xo_rd (rd_lss rfl rfl) rfl ?_
          refine xo_nil ?_
          refine xq_seq ?_
          refine xc_dec rfl (fun hq1 => ?_) (fun hq1 => (by exfalso; omega))
          refine xc_skip ?_
          refine xq_seq ?_
          refine xc_seq ?_
          refine xc_block ?_
          refine xc_seq ?_
          refine xc_seq ?_
          refine xc_region ?_
          refine xo_rd (rd_move rfl) rfl ?_
          refine xo_rd (rd_move rfl) rfl ?_
          refine xo_rd (rd_indexAddr rfl rfl (by omega) (by omega)) rfl ?_
          refine xo_rd (rd_loadA (vs := x.enc) rfl rfl (hcI _ (by intro z hz; simp [hz]))) rfl ?_
          refine xo_ef rfl (ef_call rfl (XF.mono (xf_rrightP x _ hrb k3 k5) ?_))
          rintro v L' ⟨rfl, rfl⟩
          refine xo_rd (rd_not rfl) rfl ?_
          refine xo_rd (rd_move rfl) rfl ?_
          refine xo_gskip rfl rfl rfl rfl ?_
          refine xo_gskip rfl rfl rfl rfl ?_
          refine xo_gskip rfl rfl rfl rfl ?_
          refine xo_gskip rfl rfl rfl rfl ?_
          refine xo_gskip rfl rfl rfl rfl ?_
          refine xo_gskip rfl rfl rfl rfl ?_
          refine xo_gskip rfl rfl rfl rfl ?_
          refine xo_gskipU rfl rfl rfl ?_
          refine xo_gskipU rfl rfl rfl ?_
          refine xo_gskipU rfl rfl rfl ?_
          refine xo_gskipU rfl rfl rfl ?_
          refine xo_gskipU rfl rfl rfl ?_
          refine xo_gskip rfl rfl rfl rfl ?_
          refine xo_rd (rd_pickt rfl rfl) rfl ?_
          refine xo_nil ?_
          refine xq_seq ?_
          refine xc_condt rfl ?_
          refine xc_seq ?_
          refine xc_region ?_
          refine xo_rd (rd_assign rfl) rfl ?_
          refine xo_rd (rd_assign rfl) rfl ?_
          refine xo_nil ?_
          refine xq_seq ?_
          refine xc_ret ?_
          refine xq_then_ret ?_
          refine xq_block_ret ?_
          refine xq_then_ret ?_
          refine xq_then_ret ?_
          refine xq_block_ret ?_
          refine xq_then_ret ?_
        all_goals exact xq_sub (List.sublist_append_right l L) (xq_ret2 (.inl rfl) Try.results53 rfl rfl (JnM.err 2))
  · have hin' : i = n := by omega
    subst hin'
    rw [List.take_of_length_le (by omega)] at hsl hfew ⊢
    have hko := okJ_true fun j h => hok j h (by omega)
    obtain ⟨x0, xr, hxs⟩ : ∃ x0 xr, xs = x0 :: xr := by
      cases xs with
      | nil => exact absurd hx.symm hn0
      | cons a t => exact ⟨a, t, rfl⟩
    have hk0 : kind0 (xs.map Pb.q) = x0.q.kd := by rw [hxs]; rfl
    have hc0 : ∀ L', (∀ z, z ∈ L → z ∈ L') → Cl W L' b (o + Int.toNat 0 * 4 + 1) (.int .u8 x0.q.kd) := fun L' h => by
      have h0 : xs[0]'(by omega) = x0 := by simp only [hxs]; rfl
      have := (hc1 0 (by omega) 1 _ rfl).mono h
      rw [h0] at this
      exact this
    obtain ⟨fb, hfb⟩ : ∃ r, isFirst x0.q.kd = r := ⟨_, rfl⟩
    have hjl : joinL (xs.map Pb.q) = if fb = true then ((xs.map Pb.q).flatMap putP, 0) else ([], 60) := by
      unfold joinL
      rw [if_neg hne, if_pos hko, hk0, hfb]
    have hfm : (xs.map Pb.q).flatMap putP = xs.flatMap (fun x => putP x.q) := by rw [List.flatMap_map]
    rw [hjl, hfm]
    cases fb with
    | true =>
      have hk := of_decide_eq_true hfb
      focus
        refine xc_seq ?_
        refine xc_seq ?_
        refine xc_region ?_
        refine xo_rd (rd_move rfl) rfl ?_
        refine xo_rd (rd_move rfl) rfl ?_
        refine xo_rd (rd_len rfl) rfl ?_
        refine xo_rd (rd_lss rfl rfl) rfl ?_
        refine xo_nil ?_
        refine xq_seq ?_
        refine xc_dec rfl (fun hq1 => (by exfalso; omega)) (fun hq1 => ?_)
        refine xc_exit ?_
        refine xq_then_exit ?_
        refine xq_then_exit ?_
        refine xq_block_hit ?_
        refine xq_seq ?_
        refine xc_seq ?_
        refine xc_seq ?_
        refine xc_region ?_
        refine xo_rd (rd_move rfl) rfl ?_
        refine xo_rd (rd_indexAddr rfl rfl (by omega) (by omega)) rfl ?_
        refine xo_rd (rd_fieldAddr rfl) rfl ?_
        refine xo_rd (rd_load1 rfl (hc0 _ (by intro z hz; simp [hz]))) rfl ?_
        refine xo_rd (rd_neq rfl rfl) rfl ?_
        refine xo_rd (rd_move rfl) rfl ?_
        refine xo_ndec 48 rfl (fun hq2 => ?_) (fun hq2 => ?_)
        refine xo_grd rfl rfl (rd_move rfl) rfl ?_
        refine xo_grd rfl rfl (rd_indexAddr rfl rfl (by omega) (by omega)) rfl ?_
        refine xo_grd rfl rfl (rd_fieldAddr rfl) rfl ?_
        refine xo_grd rfl rfl (rd_load1 rfl (hc0 _ (by intro z hz; simp [hz]))) rfl ?_
        refine xo_grd rfl rfl (rd_neq rfl rfl) rfl ?_
        refine xo_rd (rd_pickt rfl rfl) rfl ?_
        refine xo_nil ?_
        refine xq_seq ?_
        refine xc_ndec rfl (fun hq3 => (by exfalso; omega)) (fun hq3 => ?_)
        refine xc_skip ?_
        refine xq_seq ?_
        refine xc_seq ?_
        refine xc_region ?_
        refine xo_rd (rd_move rfl) rfl ?_
        refine xo_rd (rd_assign rfl) rfl ?_
        refine xo_rd (rd_assign rfl) rfl ?_
        refine xo_nil ?_
        refine xq_seq ?_
        refine xc_ret ?_
        rotate_left
        refine xo_gskip rfl rfl rfl rfl ?_
        refine xo_gskip rfl rfl rfl rfl ?_
        refine xo_gskip rfl rfl rfl rfl ?_
        refine xo_gskip rfl rfl rfl rfl ?_
        refine xo_gskip rfl rfl rfl rfl ?_
        refine xo_rd (rd_pickf rfl rfl) rfl ?_
        refine xo_nil ?_
        refine xq_seq ?_
        refine xc_condf rfl ?_
        refine xc_skip ?_
        refine xq_seq ?_
        refine xc_seq ?_
        refine xc_region ?_
        refine xo_rd (rd_move rfl) rfl ?_
        refine xo_rd (rd_assign rfl) rfl ?_
        refine xo_rd (rd_assign rfl) rfl ?_
        refine xo_nil ?_
        refine xq_seq ?_
        refine xc_ret ?_
        rotate_left
      all_goals exact xq_ret2 (.inl rfl) Try.results53 rfl rfl ⟨s, k, l, rfl, hsl, rfl⟩
    | false =>
      have hk := of_decide_eq_false hfb
      focus
        refine xc_seq ?_
        refine xc_seq ?_
        refine xc_region ?_
        refine xo_rd (rd_move rfl) rfl ?_
        refine xo_rd (rd_move rfl) rfl ?_
        refine xo_rd (rd_len rfl) rfl ?_
        refine xo_rd (rd_lss rfl rfl) rfl ?_
        refine xo_nil ?_
        refine xq_seq ?_
        refine xc_dec rfl (fun hq1 => (by exfalso; omega)) (fun hq1 => ?_)
        refine xc_exit ?_
        refine xq_then_exit ?_
        refine xq_then_exit ?_
        refine xq_block_hit ?_
        refine xq_seq ?_
        refine xc_seq ?_
        refine xc_seq ?_
        refine xc_region ?_
        refine xo_rd (rd_move rfl) rfl ?_
        refine xo_rd (rd_indexAddr rfl rfl (by omega) (by omega)) rfl ?_
        refine xo_rd (rd_fieldAddr rfl) rfl ?_
        refine xo_rd (rd_load1 rfl (hc0 _ (by intro z hz; simp [hz]))) rfl ?_
        refine xo_rd (rd_neq rfl rfl) rfl ?_
        refine xo_rd (rd_move rfl) rfl ?_
        refine xo_ndec 48 rfl (fun hq2 => ?_) (fun hq2 => (by exfalso; omega))
        refine xo_grd rfl rfl (rd_move rfl) rfl ?_
        refine xo_grd rfl rfl (rd_indexAddr rfl rfl (by omega) (by omega)) rfl ?_
        refine xo_grd rfl rfl (rd_fieldAddr rfl) rfl ?_
        refine xo_grd rfl rfl (rd_load1 rfl (hc0 _ (by intro z hz; simp [hz]))) rfl ?_
        refine xo_grd rfl rfl (rd_neq rfl rfl) rfl ?_
        refine xo_rd (rd_pickt rfl rfl) rfl ?_
        refine xo_nil ?_
        refine xq_seq ?_
        refine xc_ndec rfl (fun hq3 => ?_) (fun hq3 => (by exfalso; omega))
        refine xc_seq ?_
        refine xc_region ?_
        refine xo_rd (rd_assign rfl) rfl ?_
        refine xo_rd (rd_assign rfl) rfl ?_
        refine xo_nil ?_
        refine xq_seq ?_
        refine xc_ret ?_
        refine xq_then_ret ?_
      all_goals exact xq_sub (List.sublist_append_right l L) (xq_ret2 (.inl rfl) Try.results53 rfl rfl (JnM.err 60))
end Go.Proofs.Ytogilblilljpmaa.X
/-
  Numbers and noughts are written: walks of my own.
-/
namespace Go.Proofs.Ytogilblilljpmaa.X
open Go Go.RowKit
set_option linter.unusedVariables false
set_option linter.unusedSimpArgs false
section
variable {P : Program} {W : World} {n : Nat} {L : List Blk} {E : List (Nat × Value)} {d : Option Nat} {t : TypeId} {pos : String} {after : Array Edge} {g : Option (Nat × Bool)}
/-- The whole of an array, as a slice. -/
theorem rd_slArr {T e len b m : Nat} {x : Operand} [hT : Ar P T len e] [hS : Ts P e m] (hx : ev E x = some (.pointer (some ⟨b, 0, none⟩))) (hl : len ≠ 0) :
    RD P W n L E ⟨d, .slice T x none none none, t, pos, after, g⟩ (.slice (some ⟨b, 0, none⟩) len len) := .mk fun a w ha hw => by
  have hB := hS.h w
  simp [execOp, ha.eval hx, Instr.sliceAt, Instr.sliceBounds, Instr.sureAddr, run_underlying hT.h, hB, hl, add_zero']
end
theorem rd_buildArr {P : Program} {W : World} {n : Nat} {L : List Blk} {E : List (Nat × Value)} {d : Option Nat} {t : TypeId} {pos : String} {after : Array Edge} {g : Option (Nat × Bool)} {T len e s : Nat} {parts : List (Nat × Operand)} {us : List (Nat × Value)} {z : Value} {cells : Array Value} [hT : Ar P T len e] [hS : Ts P e s] [h0 : T0 P T z] (hp : evp E parts = some us) (hf : Instr.fill (fun i => some (i * s, s)) z.cells us = some cells) :
    RD P W n L E ⟨d, .build T parts.toArray, t, pos, after, g⟩ (.agg cells) := .mk fun a w ha hw => by
  have hB := hS.h w
  have hz := h0.h w
  have he := ha.evalp hp
  simp only [execOp, Instr.build, Sem.run_bind, hz, Result.andThen_ok, run_underlying hT.h, hB, List.map_toArray, he, hf]
  rfl
theorem flat4_len (l : List Int) : (l.flatMap be4).length = 4 * l.length := by
  induction l with
  | nil => rfl
  | cons a r ih => rw [List.flatMap_cons, List.length_append, ih]; simp [be4]; omega
theorem be4_by (n : Int) : ∀ x, x ∈ be4 n → By x := fun x h => by
  simp only [be4, List.mem_cons, List.not_mem_nil, or_false] at h
  unfold By
  rcases h with rfl | rfl | rfl | rfl <;> omega
structure LgS where
  i : Nat
  s : Option Addr
  k : Nat
  l : List Blk
set_option maxHeartbeats 2000000 in
theorem xf_long {W : World} {L : List Blk} (p : Option Addr) (n c : Nat) (ns : List Int) (hx : ns.length = n) (hr : Rs W L p (ints .u32 ns)) (hb : ∀ x, x ∈ ns → U4 x) (hn : n ≤ 1000000) :
    XF Try.prog W 65 #[.slice p n c] L (fun v L' => ∃ s k l, v = .slice s (4 * n) k ∧ SlO 1 5 (.slice s (4 * n) k) (4 * n) (ints .u8 (ns.flatMap be4)) l ∧ L' = l ++ L) := by
  refine xf_enter (args := [_]) Try.func65 rfl Try.ntmps65 rfl ?_
  focus
    refine xc_seq ?_
    refine xc_region ?_
    refine xo_rd (rd_assign rfl) rfl ?_
    refine xo_nil ?_
    refine xq_seq ?_
    refine xc_seq ?_
    refine xc_seq ?_
    refine xc_region ?_
    refine xo_rd (rd_move rfl) rfl ?_
    refine xo_rd (rd_len rfl) rfl ?_
    refine xo_rd (rd_move rfl) rfl ?_
    refine xo_nil ?_
    refine xq_seq ?_
    refine xc_block ?_
  refine xc_loopI (ι := LgS) (fun z => z.i ≤ n ∧ SlO 1 5 (.slice z.s (4 * z.i) z.k) (4 * z.i) (ints .u8 ((ns.take z.i).flatMap be4)) z.l) (fun z => n - z.i) (fun z => z.l ++ L) (fun z => [(2, .slice z.s (4 * z.i) z.k), (6, .slice p n c), (7, .int .i64 n), (8, .int .i64 z.i)]) ⟨0, none, 0, []⟩ ⟨Nat.zero_le _, SlO.nil⟩ rfl (by repeat (first | exact keep_nil | refine keep_cons rfl ?_)) ?_
  rintro ⟨i, s, k, l⟩ ⟨hi, hO⟩
  dsimp only at hi hO ⊢
  by_cases hin : i < n
  · obtain ⟨b, o, hp, hc⟩ := hr.int (i := i) (by omega)
    subst hp
    have hu := hb ns[i] (List.getElem_mem _)
    have e1 : ns.take (i + 1) = ns.take i ++ [ns[i]] := by rw [List.take_add_one, List.getElem?_eq_getElem (by omega)]; rfl
    generalize ns[i] = z at *
    unfold U4 at hu
    have hc' : ∀ L', (∀ z, z ∈ L → z ∈ L') → Cl W L' b (o + (i : Int).toNat * 1) (.int .u32 z) := fun L' h => hc.mono h
    focus
      refine xc_seq ?_
      refine xc_region ?_
      refine xo_rd (rd_lss rfl rfl) rfl ?_
      refine xo_nil ?_
      refine xq_seq ?_
      refine xc_seq ?_
      refine xc_dec rfl (fun hq1 => ?_) (fun hq1 => (by exfalso; omega))
      refine xc_skip ?_
      refine xq_seq ?_
      refine xc_seq ?_
      refine xc_block ?_
      refine xc_seq ?_
      refine xc_region ?_
      refine xo_rd (rd_indexAddr rfl rfl (by omega) (by omega)) rfl ?_
      refine xo_rd (rd_load1 rfl (hc' _ (by intro z hz; simp [hz]))) rfl ?_
      refine xo_rd (rd_assign rfl) rfl ?_
      refine xo_nil ?_
      refine xq_seq ?_
      refine xc_seq ?_
      refine xc_region ?_
      refine xo_rd (rd_move rfl) rfl ?_
      refine xo_rd (rd_cast (v' := .int .u32 (z / 16777216)) (rd_shr rfl rfl (by decide) (by decide)) rfl) rfl ?_
      refine xo_rd (rd_cast (v' := .int .u8 (z / 16777216 % 256)) (rd_conv rfl) (congrArg (Value.int .u8) (wrap8 (z / 16777216)))) rfl ?_
      refine xo_rd (rd_move rfl) rfl ?_
      refine xo_rd (rd_cast (v' := .int .u32 (z / 65536)) (rd_shr rfl rfl (by decide) (by decide)) rfl) rfl ?_
      refine xo_rd (rd_cast (v' := .int .u8 (z / 65536 % 256)) (rd_conv rfl) (congrArg (Value.int .u8) (wrap8 (z / 65536)))) rfl ?_
      refine xo_rd (rd_move rfl) rfl ?_
      refine xo_rd (rd_cast (v' := .int .u32 (z / 256)) (rd_shr rfl rfl (by decide) (by decide)) rfl) rfl ?_
      refine xo_rd (rd_cast (v' := .int .u8 (z / 256 % 256)) (rd_conv rfl) (congrArg (Value.int .u8) (wrap8 (z / 256)))) rfl ?_
      refine xo_rd (rd_move rfl) rfl ?_
      refine xo_rd (rd_cast (v' := .int .u8 (z % 256)) (rd_conv rfl) (congrArg (Value.int .u8) (wrap8 z))) rfl ?_
      refine xo_rd (rd_buildArr (cells := (ints .u8 (be4 z)).toArray) rfl (by kernel_rfl)) rfl ?_
      refine xo_ef rfl (ef_alloc fun r5 => ?_)
      refine xo_ef rfl (ef_storeB [] _ rfl rfl (by first | rfl | assumption) rfl rfl rfl ?_)
      refine xo_nil ?_
      refine xq_seq ?_
      refine xc_region ?_
      refine xo_rd (rd_move rfl) rfl ?_
      refine xo_rd (rd_slArr rfl (by decide)) rfl ?_
      refine xo_ef rfl (ef_appendG [(r5, .cells (ints .u8 (be4 z)).toArray 157 (0, 0))] L l (news := ints .u8 (be4 z)) rfl rfl hO rfl (Rs.fresh (List.Mem.head _)) rfl rfl (by decide) (by omega) (by omega) fun s' k' l' hO' hk' => ?_)
      refine xo_rd (rd_assign rfl) rfl ?_
      refine xo_nil ?_
      refine xq_block ?_
      refine xq_seq ?_
      refine xc_region ?_
      refine xo_rd (rd_addn rfl rfl (by omega) (by omega)) rfl ?_
      refine xo_rd (rd_move rfl) rfl ?_
      refine xo_nil ?_
    refine xq_roundI (⟨i + 1, s', k', l'⟩ : LgS) ⟨by dsimp only; omega, ?_⟩ (by dsimp only; omega) rfl (by repeat (first | exact keep_nil | refine keep_cons rfl ?_))
    dsimp only
    rw [e1, List.flatMap_append, List.flatMap_singleton, ints_app]
    exact hO'
  · focus
      refine xc_seq ?_
      refine xc_region ?_
      refine xo_rd (rd_lss rfl rfl) rfl ?_
      refine xo_nil ?_
      refine xq_seq ?_
      refine xc_seq ?_
      refine xc_dec rfl (fun h1 => (by exfalso; omega)) (fun h1 => ?_)
      refine xc_exit ?_
      refine xq_then_exit ?_
      refine xq_then_exit ?_
      refine xq_block_hit ?_
      refine xq_seq ?_
      refine xc_seq ?_
      refine xc_region ?_
      refine xo_rd (rd_move rfl) rfl ?_
      refine xo_rd (rd_assign rfl) rfl ?_
      refine xo_nil ?_
      refine xq_seq ?_
      refine xc_ret ?_
    obtain rfl : i = n := by omega
    rw [List.take_of_length_le (by omega)] at hO
    exact xq_ret1 (.inl rfl) Try.results65 rfl ⟨s, k, l, rfl, hO, rfl⟩
theorem and64_3 (m : Nat) (h : m ≤ 1000000000000) : bits .and .i64 (-(m : Int)) 3 = (((4 - m % 4) % 4 : Nat) : Int) := by
  have e1 : (BitVec.ofInt 64 (-(m : Int)) &&& BitVec.ofInt 64 3).toNat = (4 - m % 4) % 4 := by
    rw [BitVec.toNat_and, BitVec.toNat_ofInt, show (BitVec.ofInt 64 3).toNat = 2 ^ 2 - 1 from by decide, Nat.and_two_pow_sub_one_eq_mod]
    omega
  show IntKind.i64.wrap ((BitVec.ofInt 64 (-(m : Int)) &&& BitVec.ofInt 64 3).toNat : Int) = _
  rw [e1, IntKind.wrap_i64]
  omega
section
variable {P : Program} {W : World} {n : Nat} {L : List Blk} {E : List (Nat × Value)} {d : Option Nat} {t : TypeId} {pos : String} {after : Array Edge} {g : Option (Nat × Bool)}
theorem rd_neg {T : Nat} {x : Operand} {k : IntKind} {i : Int} (hx : ev E x = some (.int k i)) :
    RD P W n L E ⟨d, .unOp .neg T x, t, pos, after, g⟩ (.int k (k.wrap (-i))) := .mk fun a w ha hw => by
  simp [execOp, ha.eval hx, Op.unary, Op.intArith]
end
theorem ints_rep (k : IntKind) (m : Nat) (x : Int) : ints k (List.replicate m x) = List.replicate m (.int k x) := by simp [ints]
theorem xf_filled {W : World} {L : List Blk} (v : Value) (m : Nat) (xs : List Int) (l : List Blk) (hO : SlO 1 5 v m (ints .u8 xs) l) (hm : m ≤ 1000000000000) :
    XF Try.prog W 66 #[v] (l ++ L) (fun v L' => ∃ s k l', v = .slice s (m + (4 - m % 4) % 4) k ∧ SlO 1 5 (.slice s (m + (4 - m % 4) % 4) k) (m + (4 - m % 4) % 4) (ints .u8 (xs ++ List.replicate ((4 - m % 4) % 4) 0)) l' ∧ L' = l' ++ L) := by
  refine xf_enter (args := [_]) Try.func66 rfl Try.ntmps66 rfl ?_
  obtain ⟨s, k, rfl, hO, hk⟩ := hO.opn
  focus
    refine xc_seq ?_
    refine xc_region ?_
    refine xo_rd (rd_assign rfl) rfl ?_
    refine xo_nil ?_
    refine xq_seq ?_
    refine xc_seq ?_
    refine xc_region ?_
    refine xo_rd (rd_move rfl) rfl ?_
    refine xo_rd (rd_move rfl) rfl ?_
    refine xo_rd (rd_len rfl) rfl ?_
    refine xo_rd (rd_cast (v' := .int .i64 (-(m : Int))) (rd_neg rfl) (congrArg (Value.int .i64) (KB.h _ (by omega) (by omega)))) rfl ?_
    refine xo_rd (rd_cast (v' := .int .i64 (((4 - m % 4) % 4 : Nat) : Int)) (rd_and rfl rfl) (congrArg (Value.int .i64) (and64_3 m hm))) rfl ?_
    refine xo_ef rfl (ef_appendZ [] L l ((4 - m % 4) % 4) rfl rfl rfl hO rfl rfl rfl (by omega) (by omega) fun s' k' l' hO' hk' => ?_)
    refine xo_rd (rd_assign rfl) rfl ?_
    refine xo_nil ?_
    refine xq_seq ?_
    refine xc_ret ?_
  refine xq_ret1 (.inl rfl) Try.results66 rfl ⟨s', k', l', rfl, ?_, rfl⟩
  rw [ints_app, ints_rep]
  exact hO'
end Go.Proofs.Ytogilblilljpmaa.X
