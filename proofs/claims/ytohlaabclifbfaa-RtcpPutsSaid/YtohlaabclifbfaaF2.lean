/-
  What is put and told, by names for its answers.
-/
import Derived.Test.YtohlaabclifbfaaF1
namespace Go.Proofs.Ytohlaabclifbfaa.X
open Go Go.RowKit
set_option linter.unusedVariables false
set_option linter.unusedSimpArgs false
/-- A packet that was put: where it lies. -/
def PbM (L : List Blk) (q : Pc) (e : Int) (v : Value) (L' : List Blk) : Prop := ∃ x : Pb, v = .tuple #[.agg x.enc.toArray, .int .i64 e] ∧ x.q = q ∧ x.Ok ∧ L' = x.l ++ L
theorem PuM.to {L : List Blk} {z : Pc × Int} {q : Pc} {e : Int} (h : z = (q, e)) {v : Value} {L' : List Blk} (hp : PuM L z v L') : PbM L q e v L' := by subst h; exact hp
section
variable {W : World} {L : List Blk}
theorem xg_sender (x : Sn) (hx : x.Rg) (p : Option Addr) (c : Nat) (q : Pc) (e : Int) (hz : sndR x = (q, e)) (hr : Rs W L p (x.bl.flatMap Bk.enc)) (hn : x.bl.length ≤ 1000000) : XF Try.prog W 24 #[.agg (x.enc (.slice p x.bl.length c)).toArray] L (PbM L q e) := (xf_sender x hx p c hr hn).mono fun _ _ h => PuM.to hz h
theorem xg_receiver (ss : Int) (hs : U4 ss) (p : Option Addr) (n c : Nat) (xs : List Bk) (q : Pc) (e : Int) (hz : rcvR ss xs = (q, e)) (hx : xs.length = n) (hr : Rs W L p (xs.flatMap Bk.enc)) (hg : ∀ x, x ∈ xs → x.Rg) (hn : n ≤ 1000000) : XF Try.prog W 25 #[.agg #[.int .u32 ss, .slice p n c]] L (PbM L q e) := (xf_receiver ss hs p n c xs hx hr hg hn).mono fun _ _ h => PuM.to hz h
theorem xg_chunks (p : Option Addr) (n c : Nat) (xs : List Ck) (q : Pc) (e : Int) (hz : putCh xs = (q, e)) (hx : xs.length = n) (hr : Rs W L p (xs.flatMap Ck.enc)) (hg : ∀ x, x ∈ xs → U4 x.ss) (hn : n ≤ 1000000) : XF Try.prog W 26 #[.slice p n c] L (PbM L q e) := (xf_putChunks p n c xs hx hr hg hn).mono fun _ _ h => PuM.to hz h
theorem xg_bye (x : By') (p : Option Addr) (c : Nat) (q : Pc) (e : Int) (hz : putBy x = (q, e)) (hr : Rs W L p (ints .u32 x.so)) (hu : ∀ z, z ∈ x.so → U4 z) (hn : x.so.length ≤ 9223372036854775807) (hm : x.re.size ≤ 9223372036854775807) : XF Try.prog W 27 #[.agg (x.enc (.slice p x.so.length c)).toArray] L (PbM L q e) := (xf_bye x p c hr hu hn hm).mono fun _ _ h => PuM.to hz h
theorem xg_rsender (x : Sn) (hx : x.Rg) (p : Option Addr) (c : Nat) (q : Pc) (e : Int) (hz : sndR x = (q, e)) (hr : Rs W L p (x.bl.flatMap Bk.enc)) (hn : x.bl.length ≤ 1000000) : XF Try.prog W 28 #[.agg (x.enc (.slice p x.bl.length c)).toArray] L (PbM L q e) := (xf_rsender x hx p c hr hn).mono fun _ _ h => PuM.to hz h
theorem xg_rreceiver (ss : Int) (hs : U4 ss) (p : Option Addr) (n c : Nat) (xs : List Bk) (q : Pc) (e : Int) (hz : rcvR ss xs = (q, e)) (hx : xs.length = n) (hr : Rs W L p (xs.flatMap Bk.enc)) (hg : ∀ x, x ∈ xs → x.Rg) (hn : n ≤ 1000000) : XF Try.prog W 30 #[.agg #[.int .u32 ss, .slice p n c]] L (PbM L q e) := (xf_rreceiver ss hs p n c xs hx hr hg hn).mono fun _ _ h => PuM.to hz h
theorem xg_rchunks (p : Option Addr) (n c : Nat) (xs : List Ck) (q : Pc) (e : Int) (hz : putCh xs = (q, e)) (hx : xs.length = n) (hr : Rs W L p (xs.flatMap Ck.enc)) (hg : ∀ x, x ∈ xs → U4 x.ss) (hn : n ≤ 1000000) : XF Try.prog W 32 #[.slice p n c] L (PbM L q e) := (xf_rputChunks p n c xs hx hr hg hn).mono fun _ _ h => PuM.to hz h
theorem xg_rbye (x : By') (p : Option Addr) (c : Nat) (q : Pc) (e : Int) (hz : putBy x = (q, e)) (hr : Rs W L p (ints .u32 x.so)) (hu : ∀ z, z ∈ x.so → U4 z) (hn : x.so.length ≤ 9223372036854775807) (hm : x.re.size ≤ 9223372036854775807) : XF Try.prog W 34 #[.agg (x.enc (.slice p x.so.length c)).toArray] L (PbM L q e) := (xf_rbye x p c hr hu hn hm).mono fun _ _ h => PuM.to hz h
theorem xg_ofSender (y : Pb) (x : Sn) (hz : ofSn y.q = (x, 0)) (hr : Rs W L y.p (ints .u8 y.q.bd)) (hg : y.q.Rg) (hc : y.q.bd.length ≤ y.c) (hn : y.q.bd.length ≤ 1000000) : XF Try.prog W 37 #[.agg y.enc.toArray] L (fun v L' => ∃ s k l, v = .tuple #[.agg (x.enc (.slice s x.bl.length k)).toArray, .int .i64 0] ∧ SlO 7 95 (.slice s x.bl.length k) x.bl.length (x.bl.flatMap Bk.enc) l ∧ L' = l ++ L) := by
  have := xf_ofSender y hr hg hc hn
  rwa [hz] at this
theorem xg_ofReceiver (y : Pb) (ss : Int) (bl : List Bk) (hz : ofRc y.q = ((ss, bl), 0)) (hr : Rs W L y.p (ints .u8 y.q.bd)) (hg : y.q.Rg) (hc : y.q.bd.length ≤ y.c) (hn : y.q.bd.length ≤ 1000000) : XF Try.prog W 38 #[.agg y.enc.toArray] L (fun v L' => ∃ s k l, v = .tuple #[.agg #[.int .u32 ss, .slice s bl.length k], .int .i64 0] ∧ SlO 7 95 (.slice s bl.length k) bl.length (bl.flatMap Bk.enc) l ∧ L' = l ++ L) := by
  have := xf_ofReceiver y hr hg hc hn
  rwa [hz] at this
theorem xg_ofChunks (y : Pb) (xs : List Ck) (hz : ofCh y.q = (xs, 0)) (hr : Rs W L y.p (ints .u8 y.q.bd)) (hg : y.q.Rg) (hc : y.q.bd.length ≤ y.c) (hn : y.q.bd.length ≤ 1000000) : XF Try.prog W 41 #[.agg y.enc.toArray] L (fun v L' => ∃ s k l, v = .tuple #[.slice s xs.length k, .int .i64 0] ∧ SlO 2 97 (.slice s xs.length k) xs.length (xs.flatMap Ck.enc) l ∧ L' = l ++ L) := by
  have := xf_ofChunks y hr hg hc hn
  rwa [hz] at this
theorem xg_ofBye (y : Pb) (x : By') (hz : ofBy y.q = (x, 0)) (hr : Rs W L y.p (ints .u8 y.q.bd)) (hg : y.q.Rg) (hc : y.q.bd.length ≤ y.c) (hn : y.q.bd.length ≤ 1000000) : XF Try.prog W 43 #[.agg y.enc.toArray] L (fun v L' => ∃ s k l, v = .tuple #[.agg (x.enc (.slice s x.so.length k)).toArray, .int .i64 0] ∧ SlO 1 49 (.slice s x.so.length k) x.so.length (ints .u32 x.so) l ∧ L' = l ++ L) := by
  have := xf_ofBye y hr hg hc hn
  rwa [hz] at this
end
theorem sndR_rg {x : Sn} (hx : x.Rg) : (sndR x).1.Rg := by
  obtain ⟨⟨q, e⟩, h⟩ : ∃ z, sndR x = z := ⟨_, rfl⟩
  rw [h]
  by_cases he : e = 0
  · subst he; exact (ofSn_put hx h).2.2
  · unfold sndR at h
    split at h
    · simp only [Prod.mk.injEq] at h; exact absurd h.2.symm he
    · simp only [Prod.mk.injEq] at h; rw [← h.1]; exact Pc.zero_rg
theorem rcvR_rg {ss : Int} (hs : U4 ss) {bl : List Bk} (hg : ∀ b, b ∈ bl → b.Rg) : (rcvR ss bl).1.Rg := by
  obtain ⟨⟨q, e⟩, h⟩ : ∃ z, rcvR ss bl = z := ⟨_, rfl⟩
  rw [h]
  by_cases he : e = 0
  · subst he; exact (ofRc_put hs hg h).2.2
  · unfold rcvR at h
    split at h
    · simp only [Prod.mk.injEq] at h; exact absurd h.2.symm he
    · simp only [Prod.mk.injEq] at h; rw [← h.1]; exact Pc.zero_rg
theorem putCh_rg {xs : List Ck} (hu : ∀ x, x ∈ xs → U4 x.ss) : (putCh xs).1.Rg := by
  obtain ⟨⟨q, e⟩, h⟩ : ∃ z, putCh xs = z := ⟨_, rfl⟩
  rw [h]
  by_cases he : e = 0
  · subst he; exact (ofCh_put hu h).2.2
  · unfold putCh at h
    split at h
    · simp only [Prod.mk.injEq] at h; rw [← h.1]; exact Pc.zero_rg
    · split at h
      · simp only [Prod.mk.injEq] at h; rw [← h.1]; exact Pc.zero_rg
      · simp only [Prod.mk.injEq] at h; exact absurd h.2.symm he
theorem putBy_rg {x : By'} (hu : ∀ z, z ∈ x.so → U4 z) : (putBy x).1.Rg := by
  obtain ⟨⟨q, e⟩, h⟩ : ∃ z, putBy x = z := ⟨_, rfl⟩
  rw [h]
  by_cases he : e = 0
  · subst he; exact (ofBy_put hu h).2.2
  · unfold putBy at h
    split at h
    · simp only [Prod.mk.injEq] at h; rw [← h.1]; exact Pc.zero_rg
    · simp only [Prod.mk.injEq] at h; exact absurd h.2.symm he
theorem sndR_len (x : Sn) : (sndR x).1.bd.length ≤ 24 + 24 * x.bl.length := by
  unfold sndR
  split
  · dsimp only; rw [List.length_append, flat4_len, bkLs_len]; simp [Sn.nums]
  · exact Nat.zero_le _
theorem rcvR_len (ss : Int) (bl : List Bk) : (rcvR ss bl).1.bd.length ≤ 24 + 24 * bl.length := by
  unfold rcvR
  split
  · dsimp only; rw [List.length_append, flat4_len, bkLs_len]; simp
  · exact Nat.zero_le _
theorem putCh_len (xs : List Ck) : (putCh xs).1.bd.length ≤ 300 * xs.length := by
  unfold putCh
  split
  · exact Nat.zero_le _
  · rename_i ha
    split
    · exact Nat.zero_le _
    · dsimp only
      rw [chunksL_eq]
      exact (chBs_len xs fun x hx => by
        have : ¬ 255 < x.nm.size := fun hc => ha (List.any_eq_true.2 ⟨x, hx, decide_eq_true hc⟩)
        omega).2
theorem putBy_len (x : By') : (putBy x).1.bd.length ≤ 4 * x.so.length + x.re.size + 4 := by
  unfold putBy
  split
  · exact Nat.zero_le _
  · exact (byeB_len x).2
end Go.Proofs.Ytohlaabclifbfaa.X
