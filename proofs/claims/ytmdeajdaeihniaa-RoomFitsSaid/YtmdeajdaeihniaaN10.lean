/-
  Texts of my own, put together: walks and laws for this seat. No condition.
-/
import Derived.Test.YtmdeajdaeihniaaN9
/-
  Chapter 25: a call of a room: a walk of my own.
-/
namespace Go.Proofs.Ytmdeajdaeihniaa.X
open Go Go.RowKit
set_option linter.unusedVariables false
set_option linter.unusedSimpArgs false
def rlE (a : Ra) (id : Int) : Int := if farI id = true then 130 else relE a.fl id
def rlA (a : Ra) (id now : Int) : Ra := if farI id = true then a else { a with fl := relF a.fl id now }
def rvE (a : Ra) (b id : Int) : Int := if (farI b || farI id) = true then 130 else revE a.fl b id
def rvA (a : Ra) (b id now : Int) : Ra := if (farI b || farI id) = true then a else { a with fl := revF a.fl b id now }
def hdB (a : Ra) (id : Int) : Bool := !farI id && holdsA a.fl id
def hdA (a : Ra) (id now : Int) (k : Bool) : Ra := if farI id = true then a else { a with fl := heardF a.fl id now k }
def tkA (a : Ra) (now : Int) : Ra := { a with fl := tickF a.fl now }
def ansE (b : Bool) : Int := if b = true then 1001 else 1000
def doE (k : Int) (a : Ra) (c : Ac) (now : Int) : Int :=
  if k = 0 then jnE a c.m else if k = 1 then lvE a c.id else if k = 2 then rqE a c.id else if k = 3 then rlE a c.id else if k = 4 then rvE a c.id c.ot
  else if k = 5 ∨ k = 6 then sbE a c.id c.cs else if k = 7 then ansE (hdB a c.id) else ansE (tickA a.fl now)
def doA (k : Int) (a : Ra) (c : Ac) (now : Int) : Ra :=
  if k = 0 then jnA a c.m else if k = 1 then lvA a c.id now else if k = 2 then rqA a c.id now else if k = 3 then rlA a c.id now else if k = 4 then rvA a c.id c.ot now
  else if k = 5 ∨ k = 6 then sbA a c.id c.fl c.cs else if k = 7 then hdA a c.id now c.fl else tkA a now
theorem xf_answer {W : World} {L : List Blk} (b : Bool) : XF Try.prog W 34 #[.bool b] L (fun v L' => v = .int .i64 (ansE b) ∧ L' = L) := by
  refine xf_enter (args := [_]) Try.func34 rfl Try.ntmps34 rfl ?_
  cases b with
  | false =>
    focus
      refine xc_seq ?_
      refine xc_region ?_
      refine xo_rd (rd_assign rfl) rfl ?_
      refine xo_nil ?_
      refine xq_seq ?_
      refine xc_seq ?_
      refine xc_seq ?_
      refine xc_region ?_
      refine xo_rd (rd_move rfl) rfl ?_
      refine xo_nil ?_
      refine xq_seq ?_
      refine xc_condf rfl ?_
      refine xc_skip ?_
      refine xq_seq ?_
      refine xc_seq ?_
      refine xc_region ?_
      refine xo_rd (rd_assign rfl) rfl ?_
      refine xo_nil ?_
      refine xq_seq ?_
      refine xc_ret ?_
    exact xq_ret1 (.inl rfl) Try.results34 rfl ⟨rfl, rfl⟩
  | true =>
    focus
      refine xc_seq ?_
      refine xc_region ?_
      refine xo_rd (rd_assign rfl) rfl ?_
      refine xo_nil ?_
      refine xq_seq ?_
      refine xc_seq ?_
      refine xc_seq ?_
      refine xc_region ?_
      refine xo_rd (rd_move rfl) rfl ?_
      refine xo_nil ?_
      refine xq_seq ?_
      refine xc_condt rfl ?_
      refine xc_seq ?_
      refine xc_region ?_
      refine xo_rd (rd_assign rfl) rfl ?_
      refine xo_nil ?_
      refine xq_seq ?_
      refine xc_ret ?_
      refine xq_then_ret ?_
    exact xq_ret1 (.inl rfl) Try.results34 rfl ⟨rfl, rfl⟩
/-- What a call of the floor's leaves, told of the room by itself. -/
theorem Rm.Ok.flr {W : World} {x : Rm} (hx : x.Ok) {f : FuncId} {args : Array Value} {L L0 : List Blk} {r : Nat} {φ : Value → Prop} {g : Fa} {b : Ra} (hb : b = ⟨x.ro.most, x.ro.ms, g, x.was⟩) (h : XF Try.prog W f args L0 (fun v L' => φ v ∧ ∃ y : Fm, y.Ok ∧ y.a = g ∧ L' = (Rm.mk x.ro x.fr y x.mb x.mo x.ws).blks r L)) :
    XF Try.prog W f args L0 (fun v L' => φ v ∧ ∃ y : Rm, y.Ok ∧ y.ra = b ∧ L' = y.blks r L) :=
  h.mono fun v L' ⟨hv, y, hy, hya, hL⟩ => ⟨hv, _, hx.fmk hy, by rw [hb]; unfold Rm.ra Rm.was; dsimp only; rw [hya], hL⟩
theorem xf_RqR {W : World} {L : List Blk} (r : Nat) (x : Rm) (hx : x.Ok) (id now : Int) (hg : x.fm.a.gs.length ≤ 1000000) : XF Try.prog W 25 #[.pointer (some ⟨r, 0, none⟩), .int .i64 id, .int .u64 now] (x.blks r L) (fun v L' => v = .int .i64 (rqE x.ra id) ∧ ∃ y : Rm, y.Ok ∧ y.ra = rqA x.ra id now ∧ L' = y.blks r L) :=
  hx.flr (by unfold rqA; split <;> rfl) (xf_RRequest r x hx id now hg)
theorem xf_RlR {W : World} {L : List Blk} (r : Nat) (x : Rm) (hx : x.Ok) (id now : Int) (hg : x.fm.a.gs.length ≤ 1000000) : XF Try.prog W 32 #[.pointer (some ⟨r, 0, none⟩), .int .i64 id, .int .u64 now] (x.blks r L) (fun v L' => v = .int .i64 (rlE x.ra id) ∧ ∃ y : Rm, y.Ok ∧ y.ra = rlA x.ra id now ∧ L' = y.blks r L) :=
  hx.flr (by unfold rlA; split <;> rfl) (xf_RRelease r x hx id now hg)
theorem xf_RvR {W : World} {L : List Blk} (r : Nat) (x : Rm) (hx : x.Ok) (b id now : Int) (hg : x.fm.a.gs.length ≤ 1000000) : XF Try.prog W 33 #[.pointer (some ⟨r, 0, none⟩), .int .i64 b, .int .i64 id, .int .u64 now] (x.blks r L) (fun v L' => v = .int .i64 (rvE x.ra b id) ∧ ∃ y : Rm, y.Ok ∧ y.ra = rvA x.ra b id now ∧ L' = y.blks r L) :=
  hx.flr (by unfold rvA; split <;> rfl) (xf_RRevoke r x hx b id now hg)
theorem xf_HdR {W : World} {L : List Blk} (r : Nat) (x : Rm) (hx : x.Ok) (id now : Int) (k : Bool) : XF Try.prog W 20 #[.pointer (some ⟨r, 0, none⟩), .int .i64 id, .int .u64 now, .bool k] (x.blks r L) (fun v L' => v = .bool (hdB x.ra id) ∧ ∃ y : Rm, y.Ok ∧ y.ra = hdA x.ra id now k ∧ L' = y.blks r L) :=
  hx.flr (by unfold hdA; split <;> rfl) (xf_RHeard r x hx id now k)
theorem xf_TkR {W : World} {L : List Blk} (r : Nat) (x : Rm) (hx : x.Ok) (now : Int) (hg : x.fm.a.gs.length ≤ 1000000) (h0 : 0 ≤ x.fm.a.heard) (hn : now ≤ 18446744073709551615) : XF Try.prog W 21 #[.pointer (some ⟨r, 0, none⟩), .int .u64 now] (x.blks r L) (fun v L' => v = .bool (tickA x.ra.fl now) ∧ ∃ y : Rm, y.Ok ∧ y.ra = tkA x.ra now ∧ L' = y.blks r L) :=
  hx.flr rfl (xf_RTick r x hx now hg h0 hn)
theorem XF.val {P : Program} {W : World} {f : FuncId} {args : Array Value} {L : List Blk} {u u' : Value} {ψ : List Blk → Prop} (h : XF P W f args L (fun v L' => v = u ∧ ψ L')) (e : u = u') : XF P W f args L (fun v L' => v = u' ∧ ψ L') := e ▸ h
set_option maxHeartbeats 3200000 in
theorem xf_does {W : World} {L : List Blk} (r : Nat) (x : Rm) (hx : x.Ok) (a : Ac) (now k : Int) (hk : (a.d.tmod 9 + 9) % 9 = k) (hg : x.fm.a.gs.length ≤ 1000000) (h0 : 0 ≤ x.fm.a.heard) (hn : now ≤ 18446744073709551615) (hr : Rs W (x.blks r L) a.p (ints .i64 a.cs)) (hl : a.cs.length ≤ 1000) :
    XF Try.prog W 10 #[.pointer (some ⟨r, 0, none⟩), .agg a.enc.toArray, .int .u64 now] (x.blks r L) (fun v L' => v = .int .i64 (doE k x.ra a now) ∧ ∃ y : Rm, y.Ok ∧ y.ra = doA k x.ra a now ∧ L' = y.blks r L) := by
  have hpk := fun L' => xf_pickI (W := W) (L := L') a.d 9 (by decide) (by decide)
  rw [hk] at hpk
  have hk9 : 0 ≤ k ∧ k < 9 := by omega
  obtain ⟨e, he⟩ : ∃ e, doE k x.ra a now = e := ⟨_, rfl⟩
  obtain ⟨z, hz⟩ : ∃ z, doA k x.ra a now = z := ⟨_, rfl⟩
  rw [he, hz]
  refine xf_enter (args := [_, _, _]) Try.func10 rfl Try.ntmps10 rfl ?_
  by_cases hk5 : k = 5 ∨ k = 6
  · have hE : e = sbE x.ra a.id a.cs := by rw [← he]; unfold doE; rw [if_neg (by omega), if_neg (by omega), if_neg (by omega), if_neg (by omega), if_neg (by omega), if_pos hk5]
    have hZ : z = sbA x.ra a.id a.fl a.cs := by rw [← hz]; unfold doA; rw [if_neg (by omega), if_neg (by omega), if_neg (by omega), if_neg (by omega), if_neg (by omega), if_pos hk5]
    subst hE hZ
    clear he hz
    rcases hk5 with rfl | rfl
    · skip
      focus
        refine xc_seq ?_
        refine xc_region ?_
        refine xo_ef rfl (ef_box rfl fun r4 => ?_)
        refine xo_rd (rd_assign rfl) rfl ?_
        refine xo_nil ?_
        refine xq_seq ?_
        refine xc_seq ?_
        refine xc_seq ?_
        refine xc_region ?_
        refine xo_rd (rd_fieldAddr rfl) rfl ?_
        refine xo_rd (rd_load1 rfl (Cl.o0 rfl)) rfl ?_
        refine xo_ef rfl (ef_call rfl (XF.mono (hpk _) ?_))
        rintro v L' ⟨rfl, rfl⟩
        refine xo_nil ?_
        refine xq_seq ?_
        refine xc_block ?_
        refine xc_seq ?_
        refine xc_region ?_
        refine xo_rd (rd_eql rfl rfl) rfl ?_
        refine xo_rd (rd_assign rfl) rfl ?_
        refine xo_nil ?_
        refine xq_seq ?_
        refine xc_condf rfl ?_
        refine xc_seq ?_
        refine xc_region ?_
        refine xo_rd (rd_eql rfl rfl) rfl ?_
        refine xo_rd (rd_assign rfl) rfl ?_
        refine xo_nil ?_
        refine xq_seq ?_
        refine xc_condf rfl ?_
        refine xc_seq ?_
        refine xc_region ?_
        refine xo_rd (rd_eql rfl rfl) rfl ?_
        refine xo_rd (rd_assign rfl) rfl ?_
        refine xo_nil ?_
        refine xq_seq ?_
        refine xc_condf rfl ?_
        refine xc_seq ?_
        refine xc_region ?_
        refine xo_rd (rd_eql rfl rfl) rfl ?_
        refine xo_rd (rd_assign rfl) rfl ?_
        refine xo_nil ?_
        refine xq_seq ?_
        refine xc_condf rfl ?_
        refine xc_seq ?_
        refine xc_region ?_
        refine xo_rd (rd_eql rfl rfl) rfl ?_
        refine xo_rd (rd_assign rfl) rfl ?_
        refine xo_nil ?_
        refine xq_seq ?_
        refine xc_condf rfl ?_
        refine xc_seq ?_
        refine xc_seq ?_
        refine xc_region ?_
        refine xo_rd (rd_eql rfl rfl) rfl ?_
        refine xo_rd (rd_assign rfl) rfl ?_
        refine xo_nil ?_
        refine xq_seq ?_
        refine xc_condt rfl ?_
        refine xc_skip ?_
        refine xq_seq ?_
        refine xc_condt rfl ?_
        refine xc_seq ?_
        refine xc_region ?_
        refine xo_rd (rd_assign rfl) rfl ?_
        refine xo_nil ?_
        refine xq_seq ?_
      focus
        refine xc_seq ?_
        refine xc_region ?_
        refine xo_rd (rd_move rfl) rfl ?_
        refine xo_rd (rd_fieldAddr rfl) rfl ?_
        refine xo_rd (rd_load1 rfl (Cl.o0 rfl)) rfl ?_
        refine xo_ef rfl (ef_appendQS [] _ [] (news := ints .i64 a.cs) rfl rfl SlQ.nil rfl (hr.mono (by intro z hz; simp [hz])) (by simp [ints]) (ints_one _ _) (by decide) (by omega) (by omega) fun p2 c2 l2 hO2 hk2 => ?_)
        refine xo_rd (rd_assign rfl) rfl ?_
        refine xo_nil ?_
        refine xq_seq ?_
      rw [Nat.zero_add, List.nil_append] at hO2
      refine xc_perm (L' := (r4, Obj.cells a.enc.toArray 37 (0, 0)) :: (l2 ++ x.blks r L)) List.perm_middle ?_
      have hsb := (xf_RSubscribe (W := W) (L := (r4, Obj.cells a.enc.toArray 37 (0, 0)) :: l2 ++ L) r x hx a.id a.fl p2 (0 + a.cs.length) c2 a.cs (Nat.zero_add _).symm (hO2.rs fun z hz => (Rm.sub r x _).subset (List.mem_cons_of_mem _ (List.mem_append_left _ hz))) (by omega) hk2).perm (x.front r (_ :: l2) L)
      focus
        refine xc_seq ?_
        refine xc_region ?_
        refine xo_rd (rd_move rfl) rfl ?_
        refine xo_rd (rd_fieldAddr rfl) rfl ?_
        refine xo_rd (rd_load1 rfl (Cl.o0 rfl)) rfl ?_
        refine xo_rd (rd_fieldAddr rfl) rfl ?_
        refine xo_rd (rd_load1 rfl (Cl.o0 rfl)) rfl ?_
        refine xo_rd (rd_move rfl) rfl ?_
        refine xo_rd (rd_cast (v' := .agg (wEnc a.fl p2 (0 + a.cs.length) c2).toArray) (rd_build (T := 49) rfl rfl rfl) (by kernel_rfl)) rfl ?_
        refine xo_ef rfl (ef_call rfl (XF.mono (hsb) ?_))
        rintro v L' ⟨rfl, y, hy, hya, rfl⟩
        refine xo_rd (rd_assign rfl) rfl ?_
        refine xo_nil ?_
        refine xq_seq ?_
        refine xc_seq ?_
        refine xc_seq ?_
        refine xc_region ?_
        refine xo_rd (rd_assign rfl) rfl ?_
        refine xo_nil ?_
        refine xq_seq ?_
        refine xc_block ?_
      refine xc_perm (L' := (r4, Obj.cells a.enc.toArray 37 (0, 0)) :: (l2 ++ y.blks r L)) (y.front r ((r4, Obj.cells a.enc.toArray 37 (0, 0)) :: l2) L).symm ?_
      refine xc_loopI (ι := SpS) (fun s => s.i ≤ a.cs.length ∧ s.xs.length = a.cs.length ∧ SlQ 1 3 (.slice p2 a.cs.length c2) a.cs.length (ints .i64 s.xs) s.l) (fun s => a.cs.length - s.i) (fun s => (r4, Obj.cells a.enc.toArray 37 (0, 0)) :: (s.l ++ y.blks r L)) (fun s => [(7, .slice p2 (0 + a.cs.length) c2), (8, .int .i64 (sbE x.ra a.id a.cs)), (9, .int .i64 s.i)]) ⟨0, a.cs, l2⟩ ⟨Nat.zero_le _, rfl, hO2⟩ rfl (by repeat (first | exact keep_nil | refine keep_cons rfl ?_)) ?_
      rintro ⟨i, xs, l3⟩ ⟨hi, hxl, hO3⟩
      dsimp only at hi hxl hO3 ⊢
      by_cases hin : i < a.cs.length
      · obtain ⟨b, o, hpb, hc⟩ := (hO3.rsl (W := W) (R := y.blks r L)).int (i := i) (by omega)
        subst hpb
        focus
          refine xc_seq ?_
          refine xc_seq ?_
          refine xc_region ?_
          refine xo_rd (rd_move rfl) rfl ?_
          refine xo_rd (rd_move rfl) rfl ?_
          refine xo_rd (rd_len rfl) rfl ?_
          refine xo_rd (rd_lss rfl rfl) rfl ?_
          refine xo_nil ?_
          refine xq_seq ?_
          refine xc_dec rfl (fun hz1 => ?_) (fun hz1 => (by exfalso; omega))
          refine xc_skip ?_
          refine xq_seq ?_
          refine xc_seq ?_
          refine xc_block ?_
          refine xc_region ?_
          refine xo_rd (rd_move rfl) rfl ?_
          refine xo_rd (rd_move rfl) rfl ?_
          refine xo_rd (rd_indexAddr rfl rfl (by omega) (by omega)) rfl ?_
          refine xo_ef rfl (ef_storeQ1 [_] (y.blks r L) i (v := .int .i64 99) hO3 rfl (by omega) rfl rfl rfl (by omega) rfl fun l4 hO4 => ?_)
          refine xo_nil ?_
          refine xq_block ?_
          refine xq_seq ?_
          refine xc_region ?_
          refine xo_rd (rd_move rfl) rfl ?_
          refine xo_rd (rd_addn rfl rfl (by omega) (by omega)) rfl ?_
          refine xo_rd (rd_assign rfl) rfl ?_
          refine xo_nil ?_
        exact xq_roundI (⟨i + 1, xs.set i 99, l4⟩ : SpS) ⟨by dsimp only; omega, by dsimp only; rw [List.length_set]; exact hxl, by dsimp only; rw [ints_set]; exact hO4⟩ (by dsimp only; omega) rfl (by repeat (first | exact keep_nil | refine keep_cons rfl ?_))
      · skip
        focus
          refine xc_seq ?_
          refine xc_seq ?_
          refine xc_region ?_
          refine xo_rd (rd_move rfl) rfl ?_
          refine xo_rd (rd_move rfl) rfl ?_
          refine xo_rd (rd_len rfl) rfl ?_
          refine xo_rd (rd_lss rfl rfl) rfl ?_
          refine xo_nil ?_
          refine xq_seq ?_
          refine xc_dec rfl (fun hz1 => (by exfalso; omega)) (fun hz1 => ?_)
          refine xc_exit ?_
          refine xq_then_exit ?_
          refine xq_then_exit ?_
          refine xq_block_hit ?_
          refine xq_seq ?_
          refine xc_seq ?_
          refine xc_region ?_
          refine xo_rd (rd_move rfl) rfl ?_
          refine xo_rd (rd_assign rfl) rfl ?_
          refine xo_nil ?_
          refine xq_seq ?_
          refine xc_ret ?_
          refine xq_block_ret ?_
          refine xq_then_ret ?_
        exact xq_sub ((List.sublist_append_right l3 _).trans (List.sublist_cons_self _ _)) (xq_ret1 (.inl rfl) Try.results10 rfl ⟨rfl, y, hy, hya, rfl⟩)
    · skip
      focus
        refine xc_seq ?_
        refine xc_region ?_
        refine xo_ef rfl (ef_box rfl fun r4 => ?_)
        refine xo_rd (rd_assign rfl) rfl ?_
        refine xo_nil ?_
        refine xq_seq ?_
        refine xc_seq ?_
        refine xc_seq ?_
        refine xc_region ?_
        refine xo_rd (rd_fieldAddr rfl) rfl ?_
        refine xo_rd (rd_load1 rfl (Cl.o0 rfl)) rfl ?_
        refine xo_ef rfl (ef_call rfl (XF.mono (hpk _) ?_))
        rintro v L' ⟨rfl, rfl⟩
        refine xo_nil ?_
        refine xq_seq ?_
        refine xc_block ?_
        refine xc_seq ?_
        refine xc_region ?_
        refine xo_rd (rd_eql rfl rfl) rfl ?_
        refine xo_rd (rd_assign rfl) rfl ?_
        refine xo_nil ?_
        refine xq_seq ?_
        refine xc_condf rfl ?_
        refine xc_seq ?_
        refine xc_region ?_
        refine xo_rd (rd_eql rfl rfl) rfl ?_
        refine xo_rd (rd_assign rfl) rfl ?_
        refine xo_nil ?_
        refine xq_seq ?_
        refine xc_condf rfl ?_
        refine xc_seq ?_
        refine xc_region ?_
        refine xo_rd (rd_eql rfl rfl) rfl ?_
        refine xo_rd (rd_assign rfl) rfl ?_
        refine xo_nil ?_
        refine xq_seq ?_
        refine xc_condf rfl ?_
        refine xc_seq ?_
        refine xc_region ?_
        refine xo_rd (rd_eql rfl rfl) rfl ?_
        refine xo_rd (rd_assign rfl) rfl ?_
        refine xo_nil ?_
        refine xq_seq ?_
        refine xc_condf rfl ?_
        refine xc_seq ?_
        refine xc_region ?_
        refine xo_rd (rd_eql rfl rfl) rfl ?_
        refine xo_rd (rd_assign rfl) rfl ?_
        refine xo_nil ?_
        refine xq_seq ?_
        refine xc_condf rfl ?_
        refine xc_seq ?_
        refine xc_seq ?_
        refine xc_region ?_
        refine xo_rd (rd_eql rfl rfl) rfl ?_
        refine xo_rd (rd_assign rfl) rfl ?_
        refine xo_nil ?_
        refine xq_seq ?_
        refine xc_condf rfl ?_
        refine xc_region ?_
        refine xo_rd (rd_eql rfl rfl) rfl ?_
        refine xo_rd (rd_assign rfl) rfl ?_
        refine xo_nil ?_
        refine xq_seq ?_
        refine xc_condt rfl ?_
        refine xc_seq ?_
        refine xc_region ?_
        refine xo_rd (rd_assign rfl) rfl ?_
        refine xo_nil ?_
        refine xq_seq ?_
      focus
        refine xc_seq ?_
        refine xc_region ?_
        refine xo_rd (rd_move rfl) rfl ?_
        refine xo_rd (rd_fieldAddr rfl) rfl ?_
        refine xo_rd (rd_load1 rfl (Cl.o0 rfl)) rfl ?_
        refine xo_ef rfl (ef_appendQS [] _ [] (news := ints .i64 a.cs) rfl rfl SlQ.nil rfl (hr.mono (by intro z hz; simp [hz])) (by simp [ints]) (ints_one _ _) (by decide) (by omega) (by omega) fun p2 c2 l2 hO2 hk2 => ?_)
        refine xo_rd (rd_assign rfl) rfl ?_
        refine xo_nil ?_
        refine xq_seq ?_
      rw [Nat.zero_add, List.nil_append] at hO2
      refine xc_perm (L' := (r4, Obj.cells a.enc.toArray 37 (0, 0)) :: (l2 ++ x.blks r L)) List.perm_middle ?_
      have hsb := (xf_RSubscribe (W := W) (L := (r4, Obj.cells a.enc.toArray 37 (0, 0)) :: l2 ++ L) r x hx a.id a.fl p2 (0 + a.cs.length) c2 a.cs (Nat.zero_add _).symm (hO2.rs fun z hz => (Rm.sub r x _).subset (List.mem_cons_of_mem _ (List.mem_append_left _ hz))) (by omega) hk2).perm (x.front r (_ :: l2) L)
      focus
        refine xc_seq ?_
        refine xc_region ?_
        refine xo_rd (rd_move rfl) rfl ?_
        refine xo_rd (rd_fieldAddr rfl) rfl ?_
        refine xo_rd (rd_load1 rfl (Cl.o0 rfl)) rfl ?_
        refine xo_rd (rd_fieldAddr rfl) rfl ?_
        refine xo_rd (rd_load1 rfl (Cl.o0 rfl)) rfl ?_
        refine xo_rd (rd_move rfl) rfl ?_
        refine xo_rd (rd_cast (v' := .agg (wEnc a.fl p2 (0 + a.cs.length) c2).toArray) (rd_build (T := 49) rfl rfl rfl) (by kernel_rfl)) rfl ?_
        refine xo_ef rfl (ef_call rfl (XF.mono (hsb) ?_))
        rintro v L' ⟨rfl, y, hy, hya, rfl⟩
        refine xo_rd (rd_assign rfl) rfl ?_
        refine xo_nil ?_
        refine xq_seq ?_
        refine xc_seq ?_
        refine xc_seq ?_
        refine xc_region ?_
        refine xo_rd (rd_assign rfl) rfl ?_
        refine xo_nil ?_
        refine xq_seq ?_
        refine xc_block ?_
      refine xc_perm (L' := (r4, Obj.cells a.enc.toArray 37 (0, 0)) :: (l2 ++ y.blks r L)) (y.front r ((r4, Obj.cells a.enc.toArray 37 (0, 0)) :: l2) L).symm ?_
      refine xc_loopI (ι := SpS) (fun s => s.i ≤ a.cs.length ∧ s.xs.length = a.cs.length ∧ SlQ 1 3 (.slice p2 a.cs.length c2) a.cs.length (ints .i64 s.xs) s.l) (fun s => a.cs.length - s.i) (fun s => (r4, Obj.cells a.enc.toArray 37 (0, 0)) :: (s.l ++ y.blks r L)) (fun s => [(7, .slice p2 (0 + a.cs.length) c2), (8, .int .i64 (sbE x.ra a.id a.cs)), (9, .int .i64 s.i)]) ⟨0, a.cs, l2⟩ ⟨Nat.zero_le _, rfl, hO2⟩ rfl (by repeat (first | exact keep_nil | refine keep_cons rfl ?_)) ?_
      rintro ⟨i, xs, l3⟩ ⟨hi, hxl, hO3⟩
      dsimp only at hi hxl hO3 ⊢
      by_cases hin : i < a.cs.length
      · obtain ⟨b, o, hpb, hc⟩ := (hO3.rsl (W := W) (R := y.blks r L)).int (i := i) (by omega)
        subst hpb
        focus
          refine xc_seq ?_
          refine xc_seq ?_
          refine xc_region ?_
          refine xo_rd (rd_move rfl) rfl ?_
          refine xo_rd (rd_move rfl) rfl ?_
          refine xo_rd (rd_len rfl) rfl ?_
          refine xo_rd (rd_lss rfl rfl) rfl ?_
          refine xo_nil ?_
          refine xq_seq ?_
          refine xc_dec rfl (fun hz1 => ?_) (fun hz1 => (by exfalso; omega))
          refine xc_skip ?_
          refine xq_seq ?_
          refine xc_seq ?_
          refine xc_block ?_
          refine xc_region ?_
          refine xo_rd (rd_move rfl) rfl ?_
          refine xo_rd (rd_move rfl) rfl ?_
          refine xo_rd (rd_indexAddr rfl rfl (by omega) (by omega)) rfl ?_
          refine xo_ef rfl (ef_storeQ1 [_] (y.blks r L) i (v := .int .i64 99) hO3 rfl (by omega) rfl rfl rfl (by omega) rfl fun l4 hO4 => ?_)
          refine xo_nil ?_
          refine xq_block ?_
          refine xq_seq ?_
          refine xc_region ?_
          refine xo_rd (rd_move rfl) rfl ?_
          refine xo_rd (rd_addn rfl rfl (by omega) (by omega)) rfl ?_
          refine xo_rd (rd_assign rfl) rfl ?_
          refine xo_nil ?_
        exact xq_roundI (⟨i + 1, xs.set i 99, l4⟩ : SpS) ⟨by dsimp only; omega, by dsimp only; rw [List.length_set]; exact hxl, by dsimp only; rw [ints_set]; exact hO4⟩ (by dsimp only; omega) rfl (by repeat (first | exact keep_nil | refine keep_cons rfl ?_))
      · skip
        focus
          refine xc_seq ?_
          refine xc_seq ?_
          refine xc_region ?_
          refine xo_rd (rd_move rfl) rfl ?_
          refine xo_rd (rd_move rfl) rfl ?_
          refine xo_rd (rd_len rfl) rfl ?_
          refine xo_rd (rd_lss rfl rfl) rfl ?_
          refine xo_nil ?_
          refine xq_seq ?_
          refine xc_dec rfl (fun hz1 => (by exfalso; omega)) (fun hz1 => ?_)
          refine xc_exit ?_
          refine xq_then_exit ?_
          refine xq_then_exit ?_
          refine xq_block_hit ?_
          refine xq_seq ?_
          refine xc_seq ?_
          refine xc_region ?_
          refine xo_rd (rd_move rfl) rfl ?_
          refine xo_rd (rd_assign rfl) rfl ?_
          refine xo_nil ?_
          refine xq_seq ?_
          refine xc_ret ?_
          refine xq_block_ret ?_
          refine xq_then_ret ?_
        exact xq_sub ((List.sublist_append_right l3 _).trans (List.sublist_cons_self _ _)) (xq_ret1 (.inl rfl) Try.results10 rfl ⟨rfl, y, hy, hya, rfl⟩)
  · have hcase : k = 0 ∨ k = 1 ∨ k = 2 ∨ k = 3 ∨ k = 4 ∨ k = 7 ∨ k = 8 := by omega
    rcases hcase with rfl | rfl | rfl | rfl | rfl | rfl | rfl
    · skip
      focus
        refine xc_seq ?_
        refine xc_region ?_
        refine xo_ef rfl (ef_box rfl fun r4 => ?_)
        refine xo_rd (rd_assign rfl) rfl ?_
        refine xo_nil ?_
        refine xq_seq ?_
        refine xc_seq ?_
        refine xc_seq ?_
        refine xc_region ?_
        refine xo_rd (rd_fieldAddr rfl) rfl ?_
        refine xo_rd (rd_load1 rfl (Cl.o0 rfl)) rfl ?_
        refine xo_ef rfl (ef_call rfl (XF.mono (hpk _) ?_))
        rintro v L' ⟨rfl, rfl⟩
        refine xo_nil ?_
        refine xq_seq ?_
        refine xc_block ?_
        refine xc_seq ?_
        refine xc_region ?_
        refine xo_rd (rd_eql rfl rfl) rfl ?_
        refine xo_rd (rd_assign rfl) rfl ?_
        refine xo_nil ?_
        refine xq_seq ?_
        refine xc_condt rfl ?_
        refine xc_seq ?_
        refine xc_region ?_
        refine xo_rd (rd_move rfl) rfl ?_
        refine xo_rd (rd_fieldAddr rfl) rfl ?_
        refine xo_rd (rd_loadA (vs := a.m.enc) rfl rfl (cl_sub (b := r4) (vs := a.enc) (T := 37) (fr := (0, 0)) 1 (List.Mem.head _) rfl)) rfl ?_
        refine xo_ef rfl (ef_call rfl (XF.mono ((xf_RJoin (L := [_] ++ L) r x hx a.m).perm (x.front r [_] L)) ?_))
        rintro v L' ⟨rfl, y, hy, hya, rfl⟩
        refine xo_rd (rd_assign rfl) rfl ?_
        refine xo_nil ?_
        refine xq_seq ?_
        refine xc_ret ?_
        refine xq_block_ret ?_
        refine xq_then_ret ?_
      exact xq_sub (y.blks_sub r [_] L) (xq_ret1 (.inl rfl) Try.results10 rfl ⟨congrArg (Value.int .i64) he, y, hy, hya.trans hz, rfl⟩)
    · skip
      focus
        refine xc_seq ?_
        refine xc_region ?_
        refine xo_ef rfl (ef_box rfl fun r4 => ?_)
        refine xo_rd (rd_assign rfl) rfl ?_
        refine xo_nil ?_
        refine xq_seq ?_
        refine xc_seq ?_
        refine xc_seq ?_
        refine xc_region ?_
        refine xo_rd (rd_fieldAddr rfl) rfl ?_
        refine xo_rd (rd_load1 rfl (Cl.o0 rfl)) rfl ?_
        refine xo_ef rfl (ef_call rfl (XF.mono (hpk _) ?_))
        rintro v L' ⟨rfl, rfl⟩
        refine xo_nil ?_
        refine xq_seq ?_
        refine xc_block ?_
        refine xc_seq ?_
        refine xc_region ?_
        refine xo_rd (rd_eql rfl rfl) rfl ?_
        refine xo_rd (rd_assign rfl) rfl ?_
        refine xo_nil ?_
        refine xq_seq ?_
        refine xc_condf rfl ?_
        refine xc_seq ?_
        refine xc_region ?_
        refine xo_rd (rd_eql rfl rfl) rfl ?_
        refine xo_rd (rd_assign rfl) rfl ?_
        refine xo_nil ?_
        refine xq_seq ?_
        refine xc_condt rfl ?_
        refine xc_seq ?_
        refine xc_region ?_
        refine xo_rd (rd_move rfl) rfl ?_
        refine xo_rd (rd_fieldAddr rfl) rfl ?_
        refine xo_rd (rd_load1 rfl (Cl.o0 rfl)) rfl ?_
        refine xo_rd (rd_move rfl) rfl ?_
        refine xo_ef rfl (ef_call rfl (XF.mono ((xf_RLeave (L := [_] ++ L) r x hx a.id now hg).perm (x.front r [_] L)) ?_))
        rintro v L' ⟨rfl, y, hy, hya, rfl⟩
        refine xo_rd (rd_assign rfl) rfl ?_
        refine xo_nil ?_
        refine xq_seq ?_
        refine xc_ret ?_
        refine xq_block_ret ?_
        refine xq_then_ret ?_
      exact xq_sub (y.blks_sub r [_] L) (xq_ret1 (.inl rfl) Try.results10 rfl ⟨congrArg (Value.int .i64) he, y, hy, hya.trans hz, rfl⟩)
    · skip
      focus
        refine xc_seq ?_
        refine xc_region ?_
        refine xo_ef rfl (ef_box rfl fun r4 => ?_)
        refine xo_rd (rd_assign rfl) rfl ?_
        refine xo_nil ?_
        refine xq_seq ?_
        refine xc_seq ?_
        refine xc_seq ?_
        refine xc_region ?_
        refine xo_rd (rd_fieldAddr rfl) rfl ?_
        refine xo_rd (rd_load1 rfl (Cl.o0 rfl)) rfl ?_
        refine xo_ef rfl (ef_call rfl (XF.mono (hpk _) ?_))
        rintro v L' ⟨rfl, rfl⟩
        refine xo_nil ?_
        refine xq_seq ?_
        refine xc_block ?_
        refine xc_seq ?_
        refine xc_region ?_
        refine xo_rd (rd_eql rfl rfl) rfl ?_
        refine xo_rd (rd_assign rfl) rfl ?_
        refine xo_nil ?_
        refine xq_seq ?_
        refine xc_condf rfl ?_
        refine xc_seq ?_
        refine xc_region ?_
        refine xo_rd (rd_eql rfl rfl) rfl ?_
        refine xo_rd (rd_assign rfl) rfl ?_
        refine xo_nil ?_
        refine xq_seq ?_
        refine xc_condf rfl ?_
        refine xc_seq ?_
        refine xc_region ?_
        refine xo_rd (rd_eql rfl rfl) rfl ?_
        refine xo_rd (rd_assign rfl) rfl ?_
        refine xo_nil ?_
        refine xq_seq ?_
        refine xc_condt rfl ?_
        refine xc_seq ?_
        refine xc_region ?_
        refine xo_rd (rd_move rfl) rfl ?_
        refine xo_rd (rd_fieldAddr rfl) rfl ?_
        refine xo_rd (rd_load1 rfl (Cl.o0 rfl)) rfl ?_
        refine xo_rd (rd_move rfl) rfl ?_
        refine xo_ef rfl (ef_call rfl (XF.mono ((xf_RqR (L := [_] ++ L) r x hx a.id now hg).perm (x.front r [_] L)) ?_))
        rintro v L' ⟨rfl, y, hy, hya, rfl⟩
        refine xo_rd (rd_assign rfl) rfl ?_
        refine xo_nil ?_
        refine xq_seq ?_
        refine xc_ret ?_
        refine xq_block_ret ?_
        refine xq_then_ret ?_
      exact xq_sub (y.blks_sub r [_] L) (xq_ret1 (.inl rfl) Try.results10 rfl ⟨congrArg (Value.int .i64) he, y, hy, hya.trans hz, rfl⟩)
    · skip
      focus
        refine xc_seq ?_
        refine xc_region ?_
        refine xo_ef rfl (ef_box rfl fun r4 => ?_)
        refine xo_rd (rd_assign rfl) rfl ?_
        refine xo_nil ?_
        refine xq_seq ?_
        refine xc_seq ?_
        refine xc_seq ?_
        refine xc_region ?_
        refine xo_rd (rd_fieldAddr rfl) rfl ?_
        refine xo_rd (rd_load1 rfl (Cl.o0 rfl)) rfl ?_
        refine xo_ef rfl (ef_call rfl (XF.mono (hpk _) ?_))
        rintro v L' ⟨rfl, rfl⟩
        refine xo_nil ?_
        refine xq_seq ?_
        refine xc_block ?_
        refine xc_seq ?_
        refine xc_region ?_
        refine xo_rd (rd_eql rfl rfl) rfl ?_
        refine xo_rd (rd_assign rfl) rfl ?_
        refine xo_nil ?_
        refine xq_seq ?_
        refine xc_condf rfl ?_
        refine xc_seq ?_
        refine xc_region ?_
        refine xo_rd (rd_eql rfl rfl) rfl ?_
        refine xo_rd (rd_assign rfl) rfl ?_
        refine xo_nil ?_
        refine xq_seq ?_
        refine xc_condf rfl ?_
        refine xc_seq ?_
        refine xc_region ?_
        refine xo_rd (rd_eql rfl rfl) rfl ?_
        refine xo_rd (rd_assign rfl) rfl ?_
        refine xo_nil ?_
        refine xq_seq ?_
        refine xc_condf rfl ?_
        refine xc_seq ?_
        refine xc_region ?_
        refine xo_rd (rd_eql rfl rfl) rfl ?_
        refine xo_rd (rd_assign rfl) rfl ?_
        refine xo_nil ?_
        refine xq_seq ?_
        refine xc_condt rfl ?_
        refine xc_seq ?_
        refine xc_region ?_
        refine xo_rd (rd_move rfl) rfl ?_
        refine xo_rd (rd_fieldAddr rfl) rfl ?_
        refine xo_rd (rd_load1 rfl (Cl.o0 rfl)) rfl ?_
        refine xo_rd (rd_move rfl) rfl ?_
        refine xo_ef rfl (ef_call rfl (XF.mono ((xf_RlR (L := [_] ++ L) r x hx a.id now hg).perm (x.front r [_] L)) ?_))
        rintro v L' ⟨rfl, y, hy, hya, rfl⟩
        refine xo_rd (rd_assign rfl) rfl ?_
        refine xo_nil ?_
        refine xq_seq ?_
        refine xc_ret ?_
        refine xq_block_ret ?_
        refine xq_then_ret ?_
      exact xq_sub (y.blks_sub r [_] L) (xq_ret1 (.inl rfl) Try.results10 rfl ⟨congrArg (Value.int .i64) he, y, hy, hya.trans hz, rfl⟩)
    · skip
      focus
        refine xc_seq ?_
        refine xc_region ?_
        refine xo_ef rfl (ef_box rfl fun r4 => ?_)
        refine xo_rd (rd_assign rfl) rfl ?_
        refine xo_nil ?_
        refine xq_seq ?_
        refine xc_seq ?_
        refine xc_seq ?_
        refine xc_region ?_
        refine xo_rd (rd_fieldAddr rfl) rfl ?_
        refine xo_rd (rd_load1 rfl (Cl.o0 rfl)) rfl ?_
        refine xo_ef rfl (ef_call rfl (XF.mono (hpk _) ?_))
        rintro v L' ⟨rfl, rfl⟩
        refine xo_nil ?_
        refine xq_seq ?_
        refine xc_block ?_
        refine xc_seq ?_
        refine xc_region ?_
        refine xo_rd (rd_eql rfl rfl) rfl ?_
        refine xo_rd (rd_assign rfl) rfl ?_
        refine xo_nil ?_
        refine xq_seq ?_
        refine xc_condf rfl ?_
        refine xc_seq ?_
        refine xc_region ?_
        refine xo_rd (rd_eql rfl rfl) rfl ?_
        refine xo_rd (rd_assign rfl) rfl ?_
        refine xo_nil ?_
        refine xq_seq ?_
        refine xc_condf rfl ?_
        refine xc_seq ?_
        refine xc_region ?_
        refine xo_rd (rd_eql rfl rfl) rfl ?_
        refine xo_rd (rd_assign rfl) rfl ?_
        refine xo_nil ?_
        refine xq_seq ?_
        refine xc_condf rfl ?_
        refine xc_seq ?_
        refine xc_region ?_
        refine xo_rd (rd_eql rfl rfl) rfl ?_
        refine xo_rd (rd_assign rfl) rfl ?_
        refine xo_nil ?_
        refine xq_seq ?_
        refine xc_condf rfl ?_
        refine xc_seq ?_
        refine xc_region ?_
        refine xo_rd (rd_eql rfl rfl) rfl ?_
        refine xo_rd (rd_assign rfl) rfl ?_
        refine xo_nil ?_
        refine xq_seq ?_
        refine xc_condt rfl ?_
        refine xc_seq ?_
        refine xc_region ?_
        refine xo_rd (rd_move rfl) rfl ?_
        refine xo_rd (rd_fieldAddr rfl) rfl ?_
        refine xo_rd (rd_load1 rfl (Cl.o0 rfl)) rfl ?_
        refine xo_rd (rd_fieldAddr rfl) rfl ?_
        refine xo_rd (rd_load1 rfl (Cl.o0 rfl)) rfl ?_
        refine xo_rd (rd_move rfl) rfl ?_
        refine xo_ef rfl (ef_call rfl (XF.mono ((xf_RvR (L := [_] ++ L) r x hx a.id a.ot now hg).perm (x.front r [_] L)) ?_))
        rintro v L' ⟨rfl, y, hy, hya, rfl⟩
        refine xo_rd (rd_assign rfl) rfl ?_
        refine xo_nil ?_
        refine xq_seq ?_
        refine xc_ret ?_
        refine xq_block_ret ?_
        refine xq_then_ret ?_
      exact xq_sub (y.blks_sub r [_] L) (xq_ret1 (.inl rfl) Try.results10 rfl ⟨congrArg (Value.int .i64) he, y, hy, hya.trans hz, rfl⟩)
    · skip
      focus
        refine xc_seq ?_
        refine xc_region ?_
        refine xo_ef rfl (ef_box rfl fun r4 => ?_)
        refine xo_rd (rd_assign rfl) rfl ?_
        refine xo_nil ?_
        refine xq_seq ?_
        refine xc_seq ?_
        refine xc_seq ?_
        refine xc_region ?_
        refine xo_rd (rd_fieldAddr rfl) rfl ?_
        refine xo_rd (rd_load1 rfl (Cl.o0 rfl)) rfl ?_
        refine xo_ef rfl (ef_call rfl (XF.mono (hpk _) ?_))
        rintro v L' ⟨rfl, rfl⟩
        refine xo_nil ?_
        refine xq_seq ?_
        refine xc_block ?_
        refine xc_seq ?_
        refine xc_region ?_
        refine xo_rd (rd_eql rfl rfl) rfl ?_
        refine xo_rd (rd_assign rfl) rfl ?_
        refine xo_nil ?_
        refine xq_seq ?_
        refine xc_condf rfl ?_
        refine xc_seq ?_
        refine xc_region ?_
        refine xo_rd (rd_eql rfl rfl) rfl ?_
        refine xo_rd (rd_assign rfl) rfl ?_
        refine xo_nil ?_
        refine xq_seq ?_
        refine xc_condf rfl ?_
        refine xc_seq ?_
        refine xc_region ?_
        refine xo_rd (rd_eql rfl rfl) rfl ?_
        refine xo_rd (rd_assign rfl) rfl ?_
        refine xo_nil ?_
        refine xq_seq ?_
        refine xc_condf rfl ?_
        refine xc_seq ?_
        refine xc_region ?_
        refine xo_rd (rd_eql rfl rfl) rfl ?_
        refine xo_rd (rd_assign rfl) rfl ?_
        refine xo_nil ?_
        refine xq_seq ?_
        refine xc_condf rfl ?_
        refine xc_seq ?_
        refine xc_region ?_
        refine xo_rd (rd_eql rfl rfl) rfl ?_
        refine xo_rd (rd_assign rfl) rfl ?_
        refine xo_nil ?_
        refine xq_seq ?_
        refine xc_condf rfl ?_
        refine xc_seq ?_
        refine xc_seq ?_
        refine xc_region ?_
        refine xo_rd (rd_eql rfl rfl) rfl ?_
        refine xo_rd (rd_assign rfl) rfl ?_
        refine xo_nil ?_
        refine xq_seq ?_
        refine xc_condf rfl ?_
        refine xc_region ?_
        refine xo_rd (rd_eql rfl rfl) rfl ?_
        refine xo_rd (rd_assign rfl) rfl ?_
        refine xo_nil ?_
        refine xq_seq ?_
        refine xc_condf rfl ?_
        refine xc_seq ?_
        refine xc_region ?_
        refine xo_rd (rd_eql rfl rfl) rfl ?_
        refine xo_rd (rd_assign rfl) rfl ?_
        refine xo_nil ?_
        refine xq_seq ?_
        refine xc_condt rfl ?_
        refine xc_seq ?_
        refine xc_region ?_
        refine xo_rd (rd_move rfl) rfl ?_
        refine xo_rd (rd_fieldAddr rfl) rfl ?_
        refine xo_rd (rd_load1 rfl (Cl.o0 rfl)) rfl ?_
        refine xo_rd (rd_move rfl) rfl ?_
        refine xo_rd (rd_fieldAddr rfl) rfl ?_
        refine xo_rd (rd_load1 rfl (Cl.o0 rfl)) rfl ?_
        refine xo_ef rfl (ef_call rfl (XF.mono ((xf_HdR (L := [_] ++ L) r x hx a.id now a.fl).perm (x.front r [_] L)) ?_))
        rintro v L' ⟨rfl, y, hy, hya, rfl⟩
        refine xo_ef rfl (ef_call rfl (XF.mono (xf_answer _) ?_))
        rintro v L' ⟨rfl, rfl⟩
        refine xo_rd (rd_assign rfl) rfl ?_
        refine xo_nil ?_
        refine xq_seq ?_
        refine xc_ret ?_
        refine xq_block_ret ?_
        refine xq_then_ret ?_
      exact xq_sub (y.blks_sub r [_] L) (xq_ret1 (.inl rfl) Try.results10 rfl ⟨congrArg (Value.int .i64) he, y, hy, hya.trans hz, rfl⟩)
    · skip
      focus
        refine xc_seq ?_
        refine xc_region ?_
        refine xo_ef rfl (ef_box rfl fun r4 => ?_)
        refine xo_rd (rd_assign rfl) rfl ?_
        refine xo_nil ?_
        refine xq_seq ?_
        refine xc_seq ?_
        refine xc_seq ?_
        refine xc_region ?_
        refine xo_rd (rd_fieldAddr rfl) rfl ?_
        refine xo_rd (rd_load1 rfl (Cl.o0 rfl)) rfl ?_
        refine xo_ef rfl (ef_call rfl (XF.mono (hpk _) ?_))
        rintro v L' ⟨rfl, rfl⟩
        refine xo_nil ?_
        refine xq_seq ?_
        refine xc_block ?_
        refine xc_seq ?_
        refine xc_region ?_
        refine xo_rd (rd_eql rfl rfl) rfl ?_
        refine xo_rd (rd_assign rfl) rfl ?_
        refine xo_nil ?_
        refine xq_seq ?_
        refine xc_condf rfl ?_
        refine xc_seq ?_
        refine xc_region ?_
        refine xo_rd (rd_eql rfl rfl) rfl ?_
        refine xo_rd (rd_assign rfl) rfl ?_
        refine xo_nil ?_
        refine xq_seq ?_
        refine xc_condf rfl ?_
        refine xc_seq ?_
        refine xc_region ?_
        refine xo_rd (rd_eql rfl rfl) rfl ?_
        refine xo_rd (rd_assign rfl) rfl ?_
        refine xo_nil ?_
        refine xq_seq ?_
        refine xc_condf rfl ?_
        refine xc_seq ?_
        refine xc_region ?_
        refine xo_rd (rd_eql rfl rfl) rfl ?_
        refine xo_rd (rd_assign rfl) rfl ?_
        refine xo_nil ?_
        refine xq_seq ?_
        refine xc_condf rfl ?_
        refine xc_seq ?_
        refine xc_region ?_
        refine xo_rd (rd_eql rfl rfl) rfl ?_
        refine xo_rd (rd_assign rfl) rfl ?_
        refine xo_nil ?_
        refine xq_seq ?_
        refine xc_condf rfl ?_
        refine xc_seq ?_
        refine xc_seq ?_
        refine xc_region ?_
        refine xo_rd (rd_eql rfl rfl) rfl ?_
        refine xo_rd (rd_assign rfl) rfl ?_
        refine xo_nil ?_
        refine xq_seq ?_
        refine xc_condf rfl ?_
        refine xc_region ?_
        refine xo_rd (rd_eql rfl rfl) rfl ?_
        refine xo_rd (rd_assign rfl) rfl ?_
        refine xo_nil ?_
        refine xq_seq ?_
        refine xc_condf rfl ?_
        refine xc_seq ?_
        refine xc_region ?_
        refine xo_rd (rd_eql rfl rfl) rfl ?_
        refine xo_rd (rd_assign rfl) rfl ?_
        refine xo_nil ?_
        refine xq_seq ?_
        refine xc_condf rfl ?_
        refine xc_skip ?_
        refine xq_block ?_
        refine xq_seq ?_
        refine xc_seq ?_
        refine xc_region ?_
        refine xo_rd (rd_move rfl) rfl ?_
        refine xo_rd (rd_move rfl) rfl ?_
        refine xo_ef rfl (ef_call rfl (XF.mono ((xf_TkR (L := [_] ++ L) r x hx now hg h0 hn).perm (x.front r [_] L)) ?_))
        rintro v L' ⟨rfl, y, hy, hya, rfl⟩
        refine xo_ef rfl (ef_call rfl (XF.mono (xf_answer _) ?_))
        rintro v L' ⟨rfl, rfl⟩
        refine xo_rd (rd_assign rfl) rfl ?_
        refine xo_nil ?_
        refine xq_seq ?_
        refine xc_ret ?_
      exact xq_sub (y.blks_sub r [_] L) (xq_ret1 (.inl rfl) Try.results10 rfl ⟨congrArg (Value.int .i64) he, y, hy, hya.trans hz, rfl⟩)
end Go.Proofs.Ytmdeajdaeihniaa.X
/-
  Chapter 25: what holds of a room, whatever is called: no program in sight, no condition.
-/
namespace Go.Proofs.Ytmdeajdaeihniaa.X
open Go Go.RowKit
set_option linter.unusedVariables false
set_option linter.unusedSimpArgs false
/-- What holds of a floor, told of who is there. -/
structure FI (f : Fa) (ids : List Int) (i : Nat) : Prop where
  hd : f.held = true → f.who ∈ ids
  wt : ∀ z, z ∈ f.wt → z ∈ ids
  fr : f.held = false → f.who = 0
  he : 0 ≤ f.heard
  gs : f.gs.length ≤ i
theorem FI.up {f : Fa} {ids : List Int} {i : Nat} (h : FI f ids i) : FI f ids (i + 1) := ⟨h.hd, h.wt, h.fr, h.he, by have := h.gs; omega⟩
theorem FI.grant {f : Fa} {ids : List Int} {i : Nat} {w now : Int} (h : FI f ids i) (hw : w ∈ ids) (hn : 0 ≤ now) : FI (grantF f w now) ids (i + 1) :=
  ⟨fun _ => hw, h.wt, (fun e => by cases e), hn, by unfold grantF; dsimp only; rw [List.length_append]; have := h.gs; simp; omega⟩
theorem FI.fin {f : Fa} {ids : List Int} {i : Nat} {now : Int} (h : FI f ids i) (hn : 0 ≤ now) : FI (endF f now) ids (i + 1) := by
  unfold endF
  cases hw : f.wt with
  | nil => exact ⟨(fun e => by cases e), (fun z hz => by cases hz), (fun _ => rfl), Int.le_refl _, by show f.gs.length ≤ _; have := h.gs; omega⟩
  | cons w r =>
    have hwm : ∀ z, z ∈ w :: r → z ∈ ids := fun z hz => h.wt z (by rw [hw]; exact hz)
    have h2 : FI (freeF f r) ids i := ⟨(fun e => by cases e), (fun z hz => hwm z (List.mem_cons_of_mem _ hz)), (fun _ => rfl), Int.le_refl _, h.gs⟩
    exact h2.grant (hwm w List.mem_cons_self) hn
/-- What holds of a room. -/
structure Inv (a : Ra) (i : Nat) : Prop where
  mo : a.most = 6
  id : a.ws.map Wa.id = a.ms.map Mb.id
  nd : (a.ms.map Mb.id).Nodup
  rg : ∀ z, z ∈ a.ms.map Mb.id → 0 ≤ z ∧ z ≤ 2147483647
  fm : ∀ z, isM a.fl.ms z = true ↔ z ∈ a.ms.map Mb.id
  fn : (a.fl.ms.map (·.1)).Nodup
  fi : FI a.fl (a.ms.map Mb.id) i
  cm : ∀ w, w ∈ a.ws → w.cs.Nodup ∧ ∀ c, c ∈ w.cs → c ∈ a.ms.map Mb.id ∧ c ≠ w.id
  ln : a.ms.length ≤ 6
theorem Inv.up {a : Ra} {i : Nat} (h : Inv a i) : Inv a (i + 1) := ⟨h.mo, h.id, h.nd, h.rg, h.fm, h.fn, h.fi.up, h.cm, h.ln⟩
theorem Inv.fl {a : Ra} {i : Nat} (h : Inv a i) {g : Fa} (hm : g.ms = a.fl.ms) (hf : FI g (a.ms.map Mb.id) (i + 1)) : Inv { a with fl := g } (i + 1) :=
  ⟨h.mo, h.id, h.nd, h.rg, by dsimp only; rw [hm]; exact h.fm, by dsimp only; rw [hm]; exact h.fn, hf, h.cm, h.ln⟩
theorem endF_ms (f : Fa) (now : Int) : (endF f now).ms = f.ms := by unfold endF; split <;> rfl
theorem getId_mem' {l : List Mb} {z : Int} : (getId l z).isSome = true ↔ z ∈ l.map Mb.id := by
  unfold getId
  rw [List.find?_isSome, List.mem_map]
  simp
theorem Inv.len {a : Ra} {i : Nat} (h : Inv a i) : a.fl.ms.length = a.ms.length := by
  have hp : (a.fl.ms.map (·.1)).Perm (a.ms.map Mb.id) := (List.perm_ext_iff_of_nodup h.fn h.nd).2 fun z => by rw [← h.fm z, isM_mem]
  have := hp.length_eq
  rwa [List.length_map, List.length_map] at this
theorem Inv.join {a : Ra} {i : Nat} (h : Inv a i) (m : Mb) : Inv (jnA a m) (i + 1) := by
  unfold jnA
  by_cases he : jnE a m = 0
  case neg => rw [if_neg he]; exact h.up
  rw [if_pos he]
  unfold jnE at he
  by_cases hbig : 2147483647 < m.id
  · rw [if_pos hbig] at he; cases he
  rw [if_neg hbig] at he
  obtain ⟨hr, hg⟩ := joinR_ok he
  have hni : m.id ∉ a.ms.map Mb.id := getId_none hg
  have hid0 : 0 ≤ m.id := by
    rcases Int.lt_or_le m.id 0 with h | h
    · exact absurd (.inl h) hr
    · exact h
  have hlen : a.ms.length < 6 := by
    have hmo := h.mo
    unfold joinR at he
    rw [if_neg (Decidable.not_not.2 hr), if_neg (by rw [hg]; decide)] at he
    split at he
    · cases he
    · split at he
      · cases he
      · omega
  have him : isM a.fl.ms m.id = false := by
    cases hm : isM a.fl.ms m.id with
    | false => rfl
    | true => exact absurd ((h.fm m.id).1 hm) hni
  have hjE : joinE a.fl m.id = 0 := by
    unfold joinE
    rw [him, if_neg (by decide), if_neg (by rw [h.len]; omega)]
  have hjF : joinF a.fl m.id m.mod = { a.fl with ms := insM m.id m.mod a.fl.ms } := by unfold joinF; rw [if_pos hjE]
  have hids : (a.ms ++ [m]).map Mb.id = a.ms.map Mb.id ++ [m.id] := by rw [List.map_append]; rfl
  refine ⟨h.mo, ?_, ?_, ?_, ?_, ?_, ?_, ?_, by dsimp only; rw [List.length_append, List.length_singleton]; omega⟩
  · dsimp only
    rw [List.map_append, h.id, hids]; rfl
  · dsimp only
    rw [hids]
    refine List.nodup_append.2 ⟨h.nd, by simp, fun x hx y hy e => ?_⟩
    rw [List.mem_singleton] at hy
    subst hy; subst e
    exact hni hx
  · dsimp only
    rw [hids]
    intro z hz
    rcases List.mem_append.1 hz with h1 | h1
    · exact h.rg z h1
    · rw [List.mem_singleton.1 h1]; omega
  · dsimp only
    rw [hids, hjF]
    intro z
    dsimp only
    rw [isM_mem, List.mem_append, List.mem_singleton, ← h.fm, isM_mem]
    constructor
    · intro hz
      obtain ⟨e, he, rfl⟩ := List.mem_map.1 hz
      rcases insM_mem.1 he with rfl | he
      · exact .inr rfl
      · exact .inl (List.mem_map.2 ⟨e, he, rfl⟩)
    · rintro (hz | rfl)
      · obtain ⟨e, he, rfl⟩ := List.mem_map.1 hz
        exact List.mem_map.2 ⟨e, insM_mem.2 (.inr he), rfl⟩
      · exact List.mem_map.2 ⟨(m.id, m.mod), insM_mem.2 (.inl rfl), rfl⟩
  · dsimp only
    rw [hjF]
    exact insM_nodup h.fn him
  · dsimp only
    rw [hids, hjF]
    have hf := h.fi
    exact ⟨fun e => List.mem_append_left _ (hf.hd e), fun z hz => List.mem_append_left _ (hf.wt z hz), hf.fr, hf.he, by have := hf.gs; show a.fl.gs.length ≤ _; omega⟩
  · dsimp only
    rw [hids]
    intro w hw
    rcases List.mem_append.1 hw with h1 | h1
    · exact ⟨(h.cm w h1).1, fun c hc => ⟨List.mem_append_left _ ((h.cm w h1).2 c hc).1, ((h.cm w h1).2 c hc).2⟩⟩
    · rw [List.mem_singleton.1 h1]; exact ⟨List.nodup_nil, fun c hc => by cases hc⟩
theorem filt_erase {l : List Int} {z : Int} (h : l.Nodup) : l.filter (fun x => !decide (x = z)) = l.erase z := by
  rw [h.erase_eq_filter]
  refine List.filter_congr fun x _ => ?_
  simp [bne]
  cases hd : decide (x = z) <;> simp_all
theorem Inv.leave {a : Ra} {i : Nat} (h : Inv a i) (id now : Int) (hn : 0 ≤ now) : Inv (lvA a id now) (i + 1) := by
  unfold lvA
  by_cases he : lvE a id = 0
  case neg => rw [if_neg he]; exact h.up
  rw [if_pos he]
  have hm : id ∈ a.ms.map Mb.id := by
    unfold lvE leaveR at he
    split at he
    · rename_i hs; exact getId_mem'.1 hs
    · cases he
  have him : isM a.fl.ms id = true := (h.fm id).2 hm
  have hids : (leaveL a.ms id).map Mb.id = (a.ms.map Mb.id).erase id := ids_leave a.ms id
  have hmem : ∀ z, z ∈ (a.ms.map Mb.id).erase id ↔ z ≠ id ∧ z ∈ a.ms.map Mb.id := fun z => h.nd.mem_erase_iff
  have hout : FI (outF a.fl id) ((a.ms.map Mb.id).erase id) i ∨ holdsA a.fl id = true := by
    by_cases hh : holdsA a.fl id = true
    · exact .inr hh
    · refine .inl ⟨fun e => ?_, fun z hz => ?_, h.fi.fr, h.fi.he, h.fi.gs⟩
      · rw [hmem]
        refine ⟨fun e2 => hh ?_, h.fi.hd e⟩
        unfold holdsA
        rw [show a.fl.held = true from e, decide_eq_true (show a.fl.who = id from e2)]; rfl
      · have := List.mem_filter.1 hz
        rw [hmem]
        exact ⟨by simpa using this.2, h.fi.wt z this.1⟩
  have hfl : FI (leaveF a.fl id now) ((a.ms.map Mb.id).erase id) (i + 1) := by
    unfold leaveF
    rw [if_pos him]
    by_cases hh : holdsA a.fl id = true
    · rw [if_pos hh]
      unfold endF
      have hwt : ∀ z, z ∈ (outF a.fl id).wt → z ∈ (a.ms.map Mb.id).erase id := fun z hz => by
        have := List.mem_filter.1 hz
        rw [hmem]
        exact ⟨by simpa using this.2, h.fi.wt z this.1⟩
      cases hw : (outF a.fl id).wt with
      | nil => exact ⟨(fun e => by cases e), (fun z hz => by cases hz), (fun _ => rfl), Int.le_refl _, by show a.fl.gs.length ≤ _; have := h.fi.gs; omega⟩
      | cons w r =>
        rw [hw] at hwt
        have h2 : FI (freeF (outF a.fl id) r) ((a.ms.map Mb.id).erase id) i := ⟨(fun e => by cases e), (fun z hz => hwt z (List.mem_cons_of_mem _ hz)), (fun _ => rfl), Int.le_refl _, h.fi.gs⟩
        exact h2.grant (hwt w List.mem_cons_self) hn
    · rw [if_neg hh]
      rcases hout with h1 | h1
      · exact h1.up
      · exact absurd h1 hh
  have hms : (leaveF a.fl id now).ms = a.fl.ms.filter fun e => !(e.1 == id) := by
    unfold leaveF
    rw [if_pos him]
    split
    · rw [endF_ms]; rfl
    · rfl
  refine ⟨h.mo, ?_, ?_, ?_, ?_, ?_, ?_, ?_, ?_⟩
  · dsimp only
    rw [hids, List.map_map, ← h.id, ← filt_erase (h.id ▸ h.nd), List.filter_map]
    rfl
  · dsimp only; rw [hids]; exact h.nd.erase _
  · dsimp only; rw [hids]; exact fun z hz => h.rg z ((hmem z).1 hz).2
  · dsimp only
    rw [hids, hms]
    intro z
    rw [hmem, ← h.fm, isM_mem, isM_mem]
    constructor
    · intro hz
      obtain ⟨e, he, rfl⟩ := List.mem_map.1 hz
      have := List.mem_filter.1 he
      exact ⟨by simpa using this.2, List.mem_map.2 ⟨e, this.1, rfl⟩⟩
    · rintro ⟨h1, h2⟩
      obtain ⟨e, he, rfl⟩ := List.mem_map.1 h2
      exact List.mem_map.2 ⟨e, List.mem_filter.2 ⟨he, by simpa using h1⟩, rfl⟩
  · dsimp only; rw [hms]; exact out_nodup h.fn
  · dsimp only; rw [hids]; exact hfl
  · dsimp only
    rw [hids]
    intro w hw
    obtain ⟨u, hu, rfl⟩ := List.mem_map.1 hw
    have hu2 := List.mem_filter.1 hu
    have hc := h.cm u hu2.1
    refine ⟨hc.1.sublist List.filter_sublist, fun c hcm => ?_⟩
    have h3 := List.mem_filter.1 hcm
    exact ⟨(hmem c).2 ⟨by simpa using h3.2, (hc.2 c h3.1).1⟩, (hc.2 c h3.1).2⟩
  · dsimp only
    exact Nat.le_trans (List.eraseP_sublist.length_le) h.ln
end Go.Proofs.Ytmdeajdaeihniaa.X
/-
  Chapter 25: what holds of a room after any call; what is told of it: no program in sight, no condition.
-/
namespace Go.Proofs.Ytmdeajdaeihniaa.X
open Go Go.RowKit
set_option linter.unusedVariables false
set_option linter.unusedSimpArgs false
theorem dup_no {id : Int} {l : List Int} (h : dupI id l = false) : l.Nodup ∧ ∀ c, c ∈ l → c ≠ id := by
  rw [dupI_def, List.any_eq_false] at h
  have h1 : ∀ (j : Nat) (hj : j < l.length), l[j] ≠ id ∧ l[j] ∉ l.take j := fun j hj => by
    have := h j (List.mem_range.2 hj)
    rw [Bool.not_eq_true, Bool.or_eq_false_iff, List.getD_eq_getElem?_getD, List.getElem?_eq_getElem hj] at this
    exact ⟨of_decide_eq_false this.1, of_decide_eq_false this.2⟩
  refine ⟨List.pairwise_iff_getElem.2 fun i j hi hj hij e => (h1 j hj).2 ?_, fun c hc => ?_⟩
  · rw [← e]
    exact List.mem_take_iff_getElem.2 ⟨i, by omega, rfl⟩
  · obtain ⟨j, hj, rfl⟩ := List.mem_iff_getElem.1 hc
    exact (h1 j hj).1
theorem setW_ids (ws : List Wa) (w : Wa) : (setW ws w).map Wa.id = ws.map Wa.id := by
  unfold setW
  rw [List.map_map]
  refine List.map_congr_left fun u _ => ?_
  show (if u.id = w.id then w else u).id = u.id
  split
  · rename_i h; exact h.symm
  · rfl
theorem Inv.sub {a : Ra} {i : Nat} (h : Inv a i) (id : Int) (ct : Bool) (cs : List Int) : Inv (sbA a id ct cs) (i + 1) := by
  unfold sbA
  by_cases he : sbE a id cs = 0
  case neg => rw [if_neg he]; exact h.up
  rw [if_pos he]
  unfold sbE at he
  split at he
  case isFalse => cases he
  rename_i hall
  split at he
  case isTrue => cases he
  rename_i hd
  obtain ⟨hnd, hne⟩ := dup_no (by simpa using hd)
  refine ⟨h.mo, (setW_ids a.ws _).trans h.id, h.nd, h.rg, h.fm, h.fn, h.fi.up, ?_, h.ln⟩
  intro w hw
  obtain ⟨u, hu, rfl⟩ := List.mem_map.1 hw
  by_cases hid : u.id = id
  · have : (if u.id = (Wa.mk id ct cs).id then Wa.mk id ct cs else u) = Wa.mk id ct cs := if_pos hid
    rw [this]
    exact ⟨hnd, fun c hc => ⟨getId_mem'.1 (List.all_eq_true.1 hall c (List.mem_cons_of_mem _ hc)), hne c hc⟩⟩
  · have : (if u.id = (Wa.mk id ct cs).id then Wa.mk id ct cs else u) = u := if_neg hid
    rw [this]
    exact h.cm u hu
theorem Inv.req {a : Ra} {i : Nat} (h : Inv a i) (id now : Int) (hn : 0 ≤ now) : Inv (rqA a id now) (i + 1) := by
  unfold rqA
  split
  · exact h.up
  · by_cases he : reqE a.fl id = 0
    · have hm : id ∈ a.ms.map Mb.id := by
        unfold reqE at he
        split at he
        · rename_i hm; exact (h.fm id).1 hm
        · cases he
      refine h.fl ?_ ?_
      · unfold reqF; rw [if_pos he]; split <;> rfl
      · unfold reqF
        rw [if_pos he]
        split
        · exact ⟨h.fi.hd, fun z hz => by
            rcases List.mem_append.1 hz with h1 | h1
            · exact h.fi.wt z h1
            · rw [List.mem_singleton.1 h1]; exact hm, h.fi.fr, h.fi.he, by have := h.fi.gs; show a.fl.gs.length ≤ _; omega⟩
        · exact h.fi.grant hm hn
    · have : reqF a.fl id now = a.fl := by unfold reqF; rw [if_neg he]
      exact h.fl (by rw [this]) (by rw [this]; exact h.fi.up)
theorem Inv.done {a : Ra} {i : Nat} (h : Inv a i) (k : Int) (c : Ac) (now : Int) (hn : 0 ≤ now) : Inv (doA k a c now) (i + 1) := by
  unfold doA
  split
  · exact h.join c.m
  split
  · exact h.leave c.id now hn
  split
  · exact h.req c.id now hn
  split
  · unfold rlA
    split
    · exact h.up
    · unfold relF
      split
      · exact h.fl (endF_ms _ _) (h.fi.fin hn)
      · exact h.up
  split
  · unfold rvA
    split
    · exact h.up
    · unfold revF
      split
      · exact h.fl (endF_ms _ _) (h.fi.fin hn)
      · exact h.up
  split
  · exact h.sub c.id c.fl c.cs
  split
  · unfold hdA
    split
    · exact h.up
    · unfold heardF
      split
      · exact h.fl rfl ⟨h.fi.hd, h.fi.wt, h.fi.fr, hn, by have := h.fi.gs; show a.fl.gs.length ≤ _; omega⟩
      · exact h.up
  · unfold tkA tickF
    split
    · exact h.fl (endF_ms _ _) (h.fi.fin hn)
    · exact h.up
/-! ### what is told -/
theorem fl_sub {k : Int} {a : Ra} {c : Ac} {now : Int} (hk : k = 5 ∨ k = 6) : (doA k a c now).fl = a.fl := by
  unfold doA
  rw [if_neg (by omega), if_neg (by omega), if_neg (by omega), if_neg (by omega), if_neg (by omega), if_pos hk]
  unfold sbA
  split <;> rfl
theorem wfA_ids {ws : List Wa} {z : Int} : (wfA ws z).isSome = true ↔ z ∈ ws.map Wa.id := by
  unfold wfA
  rw [List.find?_isSome, List.mem_map]
  simp
theorem wgA_mem {ws : List Wa} {z : Int} (h : (wfA ws z).isSome = true) : wgA ws z ∈ ws ∧ (wgA ws z).id = z := by
  obtain ⟨w, hw⟩ := Option.isSome_iff_exists.1 h
  unfold wgA
  rw [hw]
  exact ⟨List.mem_of_find?_eq_some hw, by simpa using List.find?_some hw⟩
theorem left_out {a : Ra} {id now : Int} (h : lvE a id = 0) (hnd : (a.ms.map Mb.id).Nodup) : id ∉ (lvA a id now).ms.map Mb.id ∧ ∀ l : List Int, l.filter (viewP (lvA a id now).ws id) = [] := by
  unfold lvA
  rw [if_pos h]
  refine ⟨?_, fun l => ?_⟩
  · dsimp only
    rw [ids_leave]
    exact fun hm => (hnd.mem_erase_iff.1 hm).1 rfl
  · dsimp only
    rw [List.filter_eq_nil_iff]
    intro z _ hv
    unfold viewP at hv
    have hm := ixOf_mem (of_decide_eq_true hv)
    cases hs : (wfA ((a.ws.filter fun w => !decide (w.id = id)).map (cutW id)) z).isSome with
    | false =>
      have hno := Option.not_isSome_iff_eq_none.1 (Bool.eq_false_iff.1 hs)
      unfold wgA at hm
      rw [hno] at hm
      cases hm
    | true =>
      obtain ⟨h1, _⟩ := wgA_mem hs
      obtain ⟨u, _, hu⟩ := List.mem_map.1 h1
      rw [← hu] at hm
      have := (List.mem_filter.1 hm).2
      simp at this
theorem aud_told {a : Ra} {i : Nat} (h : Inv a i) {z : Int} (hz : z ∈ (a.ms.map Mb.id).filter (audP a.ws a.fl.held a.fl.who)) : (wfA a.ws z).isSome = true ∧ (wgA a.ws z).ct = true ∧ (a.fl.held = true → a.fl.who ≠ z) ∧ z ∈ a.ms.map Mb.id := by
  obtain ⟨h1, h2⟩ := List.mem_filter.1 hz
  unfold audP at h2
  rw [Bool.and_eq_true] at h2
  refine ⟨wfA_ids.2 (h.id ▸ h1), h2.1, fun he hw => ?_, h1⟩
  have := h2.2
  rw [he, decide_eq_true hw] at this
  cases this
theorem id_told {a : Ra} {i : Nat} (h : Inv a i) {z : Int} (hz : z ∈ a.ms.map Mb.id) : (wfA a.ws z).isSome = true ∧ ((wgA a.ws z).ct = true → ¬ (a.fl.held = true ∧ a.fl.who = z) → z ∈ (a.ms.map Mb.id).filter (audP a.ws a.fl.held a.fl.who)) ∧ (wgA a.ws z).cs.Nodup ∧ ∀ c, c ∈ (wgA a.ws z).cs → c ∈ a.ms.map Mb.id ∧ c ≠ z ∧ z ∈ (a.ms.map Mb.id).filter (viewP a.ws c) := by
  have hs := wfA_ids.2 (h.id ▸ hz)
  obtain ⟨hm, hi⟩ := wgA_mem hs
  have hc := h.cm _ hm
  refine ⟨hs, fun hct hn => List.mem_filter.2 ⟨hz, ?_⟩, hc.1, fun c hcm => ⟨(hc.2 c hcm).1, hi ▸ (hc.2 c hcm).2, List.mem_filter.2 ⟨hz, ?_⟩⟩⟩
  · unfold audP
    rw [hct]
    cases he : a.fl.held with
    | false => rfl
    | true => rw [decide_eq_false (fun e => hn ⟨he, e⟩)]; rfl
  · unfold viewP
    exact decide_eq_true (mem_ixOf hcm)
theorem inv_new : Inv ⟨6, [], newFa 3 12, []⟩ 0 :=
  ⟨rfl, rfl, List.nodup_nil, (fun z hz => by cases hz), (fun z => by simp [newFa, isM]), List.nodup_nil, ⟨(fun e => by cases e), (fun z hz => by cases hz), (fun _ => rfl), Int.le_refl _, Nat.le_refl _⟩, (fun w hw => by cases hw), by show (0 : Nat) ≤ 6; omega⟩
end Go.Proofs.Ytmdeajdaeihniaa.X
