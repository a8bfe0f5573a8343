/-
  A packet is written: a walk of my own.
-/
import Derived.Test.YtpcmnbagalhjiaaB1
namespace Go.Proofs.Ytpcmnbagalhjiaa.X
open Go Go.RowKit
set_option linter.unusedVariables false
set_option linter.unusedSimpArgs false
theorem XF.subK {P : Program} {W : World} {f : FuncId} {args : Array Value} {L : List Blk} {K : Value → List Blk → Prop} (h : XF P W f args L (fun v L' => ∃ L'', L''.Sublist L' ∧ K v L'')) : XF P W f args L K := .mk fun w hw =>
  (h.run w hw).mono fun e w' ⟨v, he, L', h1, L'', h2, h3⟩ => ⟨v, he, L'', h1.sub h2, h3⟩
theorem SlO.made0 {r k e : Nat} {v : Value} : SlO 1 e (.slice (some ⟨r, 0, none⟩) 0 k) 0 [] [(r, .cells (List.replicate k v).toArray e (0, 0))] :=
  .inr ⟨r, (List.replicate k v).toArray, k, rfl, rfl, Nat.zero_le _, by simp, by simp⟩
theorem or64_128 (n : Int) (h0 : 0 ≤ n) (h1 : n ≤ 15) : bits .or .i64 128 n = 128 + n := by
  obtain ⟨k, rfl⟩ := Int.eq_ofNat_of_zero_le h0
  have : ∀ k : Fin 16, bits .or .i64 128 (k.val : Int) = 128 + (k.val : Int) := by decide +kernel
  exact this ⟨k, by omega⟩
theorem or8_32 (x : Int) (h0 : 0 ≤ x) (h1 : x ≤ 255) (h : x / 32 % 2 = 0) : bits .or .u8 x 32 = x + 32 := u8_ind (p := fun x => x / 32 % 2 = 0 → bits .or .u8 x 32 = x + 32) (by decide +kernel) x h0 h1 h
theorem or8_16 (x : Int) (h0 : 0 ≤ x) (h1 : x ≤ 255) (h : x / 16 % 2 = 0) : bits .or .u8 x 16 = x + 16 := u8_ind (p := fun x => x / 16 % 2 = 0 → bits .or .u8 x 16 = x + 16) (by decide +kernel) x h0 h1 h
theorem or8_128 (x : Int) (h0 : 0 ≤ x) (h1 : x ≤ 127) : bits .or .u8 x 128 = x + 128 := u8_ind (p := fun x => x ≤ 127 → bits .or .u8 x 128 = x + 128) (by decide +kernel) x h0 (by omega) h1
theorem rd_buildArr {P : Program} {W : World} {n : Nat} {L : List Blk} {E : List (Nat × Value)} {d : Option Nat} {t : TypeId} {pos : String} {after : Array Edge} {g : Option (Nat × Bool)} {T len e s : Nat} {parts : List (Nat × Operand)} {us : List (Nat × Value)} {z : Value} {cells : Array Value} [hT : Ar P T len e] [hS : Ts P e s] [h0 : T0 P T z] (hp : evp E parts = some us) (hf : Instr.fill (fun i => some (i * s, s)) z.cells us = some cells) :
    RD P W n L E ⟨d, .build T parts.toArray, t, pos, after, g⟩ (.agg cells) := .mk fun a w ha hw => by
  have hB := hS.h w
  have hz := h0.h w
  have he := ha.evalp hp
  simp only [execOp, Instr.build, Sem.run_bind, hz, Result.andThen_ok, run_underlying hT.h, hB, List.map_toArray, he, hf]
  rfl
theorem xf_long {W : World} {L : List Blk} (n : Int) (h0 : 0 ≤ n) (h1 : n ≤ 4294967295) : XF Try.prog W 35 #[.int .u32 n] L (fun v L' => v = .agg (ints .u8 (be4 n)).toArray ∧ L' = L) := by
  refine xf_enter (args := [_]) Try.func35 rfl Try.ntmps35 rfl ?_
  focus
    refine xc_seq ?_
    refine xc_region ?_
    refine xo_ef rfl (ef_alloc fun r2 => ?_)
    refine xo_nil ?_
    refine xq_seq ?_
    refine xc_seq ?_
    refine xc_region ?_
    refine xo_rd (rd_move rfl) rfl ?_
    refine xo_rd (rd_shr rfl rfl (by decide) (by decide)) rfl ?_
    refine xo_rd (rd_cast (v' := .int .u8 (n / 16777216 % 256)) (rd_conv rfl) (by rw [wrap8]; rfl)) rfl ?_
    refine xo_rd (rd_move rfl) rfl ?_
    refine xo_rd (rd_shr rfl rfl (by decide) (by decide)) rfl ?_
    refine xo_rd (rd_cast (v' := .int .u8 (n / 65536 % 256)) (rd_conv rfl) (by rw [wrap8]; rfl)) rfl ?_
    refine xo_rd (rd_move rfl) rfl ?_
    refine xo_rd (rd_shr rfl rfl (by decide) (by decide)) rfl ?_
    refine xo_rd (rd_cast (v' := .int .u8 (n / 256 % 256)) (rd_conv rfl) (by rw [wrap8]; rfl)) rfl ?_
    refine xo_rd (rd_move rfl) rfl ?_
    refine xo_rd (rd_cast (v' := .int .u8 (n % 256)) (rd_conv rfl) (by rw [wrap8])) rfl ?_
    refine xo_rd (rd_buildArr (cells := (ints .u8 (be4 n)).toArray) rfl (by kernel_rfl)) rfl ?_
    refine xo_ef rfl (ef_storeB [] _ rfl rfl (by first | rfl | assumption) rfl rfl rfl ?_)
    refine xo_nil ?_
    refine xq_seq ?_
    refine xc_ret ?_
  exact xq_retB (L' := L) (.inl rfl) Try.results35 rfl Kn.o0 rfl (List.sublist_cons_self _ _) ⟨rfl, rfl⟩
theorem xf_putc {W : World} {R : List Blk} (r : Nat) (v : Value) (n : Nat) (xs news : List Int) (lb : List Blk) (p : Option Addr) (m c : Nat) (hO : SlO 1 5 v n (ints .u8 xs) lb) (hr : Rs W ((r, .cells #[v] 22 (0, 0)) :: (lb ++ R)) p (ints .u8 news)) (hm : news.length = m) (b1 : n ≤ 10000000) (b2 : m ≤ 10000000) :
    XF Try.prog W 34 #[.slice p m c, .pointer (some ⟨r, 0, none⟩)] ((r, .cells #[v] 22 (0, 0)) :: (lb ++ R)) (fun u L' => u = .tuple #[] ∧ ∃ q k l', SlO 1 5 (.slice q (n + m) k) (n + m) (ints .u8 (xs ++ news)) l' ∧ L' = (r, .cells #[.slice q (n + m) k] 22 (0, 0)) :: (l' ++ R)) := by
  refine xf_enter (args := [_, _]) Try.func34 rfl Try.ntmps34 rfl ?_
  obtain ⟨q0, k0, rfl, hO, _⟩ := hO.opn
  focus
    refine xc_region ?_
    refine xo_rd (rd_load1 rfl (Cl.o0 rfl)) rfl ?_
    refine xo_rd (rd_move rfl) rfl ?_
    refine xo_ef rfl (ef_appendS [_] R lb (news := ints .u8 news) rfl rfl hO rfl hr (by rw [ints_len, hm, Nat.mul_one]) (ints_one _ _) (by decide) (by omega) (by omega) fun q' k' l' hO' hck => ?_)
    refine xo_ef rfl (ef_store1 [] _ rfl rfl (by first | rfl | assumption) rfl rfl rfl ?_)
    refine xo_nil ?_
  rw [← ints_app] at hO'
  exact xq_ret0 (.inr rfl) Try.results34 ⟨rfl, q', k', l', hO', rfl⟩
/-- The closure 'put': what lay ahead is dropped. -/
theorem xf_putG {W : World} (G R : List Blk) (r : Nat) (v : Value) (n : Nat) (xs news : List Int) (lb : List Blk) (p : Option Addr) (m c : Nat) (hO : SlO 1 5 v n (ints .u8 xs) lb) (hr : Rs W (G ++ ((r, .cells #[v] 22 (0, 0)) :: (lb ++ R))) p (ints .u8 news)) (hm : news.length = m) (b1 : n ≤ 10000000) (b2 : m ≤ 10000000) :
    XF Try.prog W 34 #[.slice p m c, .pointer (some ⟨r, 0, none⟩)] (G ++ ((r, .cells #[v] 22 (0, 0)) :: (lb ++ R))) (fun u L' => u = .tuple #[] ∧ ∃ q k l', SlO 1 5 (.slice q (n + m) k) (n + m) (ints .u8 (xs ++ news)) l' ∧ L' = (r, .cells #[.slice q (n + m) k] 22 (0, 0)) :: (l' ++ R)) := by
  have hp : (G ++ ((r, Obj.cells #[v] 22 (0, 0)) :: (lb ++ R))).Perm ((r, Obj.cells #[v] 22 (0, 0)) :: (lb ++ (R ++ G))) := (by classical exact List.perm_iff_count.2 fun a => by simp only [List.append_eq, List.count_append, List.count_cons, List.count_nil, List.cons_append, List.nil_append, List.flatMap_append, List.flatMap_cons, List.flatMap_nil, List.append_nil]; omega)
  refine XF.subK (((xf_putc r v n xs news lb p m c hO (R := R ++ G) (hr.mono fun z hz => hp.mem_iff.1 hz) hm b1 b2).perm hp).mono ?_)
  rintro u L' ⟨rfl, q, k, l', h1, rfl⟩
  exact ⟨_, (List.Sublist.append_left (List.sublist_append_left R G) l').cons_cons _, rfl, q, k, l', h1, rfl⟩
end Go.Proofs.Ytpcmnbagalhjiaa.X
