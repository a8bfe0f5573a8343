/-
  Texts of my own, put together: walks and laws for this seat. No condition.
-/
import Derived.Test.YtogilblilljpmaaS1
import Derived.Test.YtogilblilljpmaaProg
import Derived.KernelRfl
import Derived.Test.YtogilblilljpmaaS2
/-
  What is known of the types and functions of this seat's translation, as instances; written by a program of mine off the translation. No condition.
-/
namespace Go.Proofs.Ytogilblilljpmaa.X
open Go

instance : Inf Try.prog 1 .nilFunc 1 8 := Inf.of (by kernel_rfl) rfl
instance : Ta Try.prog 1 false := ⟨Try.isAgg1⟩
instance : Inf Try.prog 2 (.int .i64 0) 1 8 := Inf.of (by kernel_rfl) rfl
instance : Ta Try.prog 2 false := ⟨Try.isAgg2⟩
instance : Ik Try.prog 2 .i64 := ⟨Try.underlying2⟩
instance : Inf Try.prog 3 (.int .i64 0) 1 8 := Inf.of (by kernel_rfl) rfl
instance : Ta Try.prog 3 false := ⟨Try.isAgg3⟩
instance : Ik Try.prog 3 .i64 := ⟨Try.underlying3⟩
instance : Inf Try.prog 4 (.bool false) 1 1 := Inf.of (by kernel_rfl) rfl
instance : Ta Try.prog 4 false := ⟨Try.isAgg4⟩
instance : Bo Try.prog 4 := ⟨Try.underlying4⟩
instance : Inf Try.prog 5 (.int .u8 0) 1 1 := Inf.of (by kernel_rfl) rfl
instance : Ta Try.prog 5 false := ⟨Try.isAgg5⟩
instance : Ik Try.prog 5 .u8 := ⟨Try.underlying5⟩
instance : Inf Try.prog 6 (.int .u8 0) 1 1 := Inf.of (by kernel_rfl) rfl
instance : Ta Try.prog 6 false := ⟨Try.isAgg6⟩
instance : Ik Try.prog 6 .u8 := ⟨Try.underlying6⟩
instance : Inf Try.prog 7 (.agg #[(.int .i64 0), (.int .i64 0), (.bool false), (.int .u8 0)]) 4 24 := Inf.of (by kernel_rfl) rfl
instance : Ta Try.prog 7 true := ⟨Try.isAgg7⟩
instance : Pl Try.prog 7 [(0, 1), (1, 1), (2, 1), (3, 1)] := ⟨_, Try.underlying7, fun w => by kernel_rfl⟩
instance : Fd Try.prog 7 0 0 2 := ⟨_, _, Try.underlying7, rfl, rfl, rfl⟩
instance : Fd Try.prog 7 1 1 3 := ⟨_, _, Try.underlying7, rfl, rfl, rfl⟩
instance : Fd Try.prog 7 2 2 4 := ⟨_, _, Try.underlying7, rfl, rfl, rfl⟩
instance : Fd Try.prog 7 3 3 6 := ⟨_, _, Try.underlying7, rfl, rfl, rfl⟩
instance : Inf Try.prog 8 (.agg #[(.int .i64 0), (.int .i64 0), (.bool false), (.int .u8 0)]) 4 24 := Inf.of (by kernel_rfl) rfl
instance : Ta Try.prog 8 true := ⟨Try.isAgg8⟩
instance : Pl Try.prog 8 [(0, 1), (1, 1), (2, 1), (3, 1)] := ⟨_, Try.underlying8, fun w => by kernel_rfl⟩
instance : Fd Try.prog 8 0 0 2 := ⟨_, _, Try.underlying8, rfl, rfl, rfl⟩
instance : Fd Try.prog 8 1 1 3 := ⟨_, _, Try.underlying8, rfl, rfl, rfl⟩
instance : Fd Try.prog 8 2 2 4 := ⟨_, _, Try.underlying8, rfl, rfl, rfl⟩
instance : Fd Try.prog 8 3 3 6 := ⟨_, _, Try.underlying8, rfl, rfl, rfl⟩
instance : Inf Try.prog 9 (.string ⟨#[]⟩) 1 16 := Inf.of (by kernel_rfl) rfl
instance : Ta Try.prog 9 false := ⟨Try.isAgg9⟩
instance : St Try.prog 9 := ⟨Try.underlying9⟩
instance : Inf Try.prog 10 (.string ⟨#[]⟩) 1 16 := Inf.of (by kernel_rfl) rfl
instance : Ta Try.prog 10 false := ⟨Try.isAgg10⟩
instance : St Try.prog 10 := ⟨Try.underlying10⟩
instance : Inf Try.prog 11 (.string ⟨#[]⟩) 1 16 := Inf.of (by kernel_rfl) rfl
instance : Ta Try.prog 11 false := ⟨Try.isAgg11⟩
instance : St Try.prog 11 := ⟨Try.underlying11⟩
instance : Inf Try.prog 12 (.int .u64 0) 1 8 := Inf.of (by kernel_rfl) rfl
instance : Ta Try.prog 12 false := ⟨Try.isAgg12⟩
instance : Ik Try.prog 12 .u64 := ⟨Try.underlying12⟩
instance : Inf Try.prog 13 (.agg #[(.string ⟨#[]⟩), (.int .u64 0)]) 2 24 := Inf.of (by kernel_rfl) rfl
instance : Ta Try.prog 13 true := ⟨Try.isAgg13⟩
instance : Pl Try.prog 13 [(0, 1), (1, 1)] := ⟨_, Try.underlying13, fun w => by kernel_rfl⟩
instance : Fd Try.prog 13 0 0 9 := ⟨_, _, Try.underlying13, rfl, rfl, rfl⟩
instance : Fd Try.prog 13 1 1 12 := ⟨_, _, Try.underlying13, rfl, rfl, rfl⟩
instance : Inf Try.prog 14 (.agg #[(.string ⟨#[]⟩), (.int .u64 0)]) 2 24 := Inf.of (by kernel_rfl) rfl
instance : Ta Try.prog 14 true := ⟨Try.isAgg14⟩
instance : Pl Try.prog 14 [(0, 1), (1, 1)] := ⟨_, Try.underlying14, fun w => by kernel_rfl⟩
instance : Fd Try.prog 14 0 0 9 := ⟨_, _, Try.underlying14, rfl, rfl, rfl⟩
instance : Fd Try.prog 14 1 1 12 := ⟨_, _, Try.underlying14, rfl, rfl, rfl⟩
instance : Inf Try.prog 15 (.pointer none) 1 8 := Inf.of (by kernel_rfl) rfl
instance : Ta Try.prog 15 false := ⟨Try.isAgg15⟩
instance : Pn Try.prog 15 160 := ⟨Try.underlying15⟩
instance : Inf Try.prog 16 (.pointer none) 1 8 := Inf.of (by kernel_rfl) rfl
instance : Ta Try.prog 16 false := ⟨Try.isAgg16⟩
instance : Pn Try.prog 16 163 := ⟨Try.underlying16⟩
instance : Inf Try.prog 17 (.pointer none) 1 8 := Inf.of (by kernel_rfl) rfl
instance : Ta Try.prog 17 false := ⟨Try.isAgg17⟩
instance : Pn Try.prog 17 171 := ⟨Try.underlying17⟩
instance : Inf Try.prog 18 (.agg #[(.pointer none)]) 1 8 := Inf.of (by kernel_rfl) rfl
instance : Ta Try.prog 18 true := ⟨Try.isAgg18⟩
instance : Pl Try.prog 18 [(0, 1)] := ⟨_, Try.underlying18, fun w => by kernel_rfl⟩
instance : Fd Try.prog 18 0 0 17 := ⟨_, _, Try.underlying18, rfl, rfl, rfl⟩
instance : Inf Try.prog 19 (.agg #[(.pointer none)]) 1 8 := Inf.of (by kernel_rfl) rfl
instance : Ta Try.prog 19 true := ⟨Try.isAgg19⟩
instance : Pl Try.prog 19 [(0, 1)] := ⟨_, Try.underlying19, fun w => by kernel_rfl⟩
instance : Fd Try.prog 19 0 0 17 := ⟨_, _, Try.underlying19, rfl, rfl, rfl⟩
instance : Inf Try.prog 20 .nilIface 1 16 := Inf.of (by kernel_rfl) rfl
instance : Ta Try.prog 20 false := ⟨Try.isAgg20⟩
instance : Inf Try.prog 21 (.int .i32 0) 1 4 := Inf.of (by kernel_rfl) rfl
instance : Ta Try.prog 21 false := ⟨Try.isAgg21⟩
instance : Ik Try.prog 21 .i32 := ⟨Try.underlying21⟩
instance : Inf Try.prog 22 (.int .u64 0) 1 8 := Inf.of (by kernel_rfl) rfl
instance : Ta Try.prog 22 false := ⟨Try.isAgg22⟩
instance : Ik Try.prog 22 .u64 := ⟨Try.underlying22⟩
instance : Inf Try.prog 23 .nilFunc 1 8 := Inf.of (by kernel_rfl) rfl
instance : Ta Try.prog 23 false := ⟨Try.isAgg23⟩
instance : Inf Try.prog 24 (.int .u32 0) 1 4 := Inf.of (by kernel_rfl) rfl
instance : Ta Try.prog 24 false := ⟨Try.isAgg24⟩
instance : Ik Try.prog 24 .u32 := ⟨Try.underlying24⟩
instance : Inf Try.prog 25 .nilFunc 1 8 := Inf.of (by kernel_rfl) rfl
instance : Ta Try.prog 25 false := ⟨Try.isAgg25⟩
instance : Inf Try.prog 26 .nilFunc 1 8 := Inf.of (by kernel_rfl) rfl
instance : Ta Try.prog 26 false := ⟨Try.isAgg26⟩
instance : Inf Try.prog 27 .nilFunc 1 8 := Inf.of (by kernel_rfl) rfl
instance : Ta Try.prog 27 false := ⟨Try.isAgg27⟩
instance : Inf Try.prog 28 (.slice none 0 0) 1 24 := Inf.of (by kernel_rfl) rfl
instance : Ta Try.prog 28 false := ⟨Try.isAgg28⟩
instance : Sl Try.prog 28 22 := ⟨Try.underlying28⟩
instance : Inf Try.prog 29 (.agg #[(.int .u32 0), (.int .u8 0), (.int .i32 0), (.int .u32 0), (.int .u32 0), (.int .u32 0), (.int .u32 0)]) 7 28 := Inf.of (by kernel_rfl) rfl
instance : Ta Try.prog 29 true := ⟨Try.isAgg29⟩
instance : Pl Try.prog 29 [(0, 1), (1, 1), (2, 1), (3, 1), (4, 1), (5, 1), (6, 1)] := ⟨_, Try.underlying29, fun w => by kernel_rfl⟩
instance : Fd Try.prog 29 0 0 24 := ⟨_, _, Try.underlying29, rfl, rfl, rfl⟩
instance : Fd Try.prog 29 1 1 5 := ⟨_, _, Try.underlying29, rfl, rfl, rfl⟩
instance : Fd Try.prog 29 2 2 21 := ⟨_, _, Try.underlying29, rfl, rfl, rfl⟩
instance : Fd Try.prog 29 3 3 24 := ⟨_, _, Try.underlying29, rfl, rfl, rfl⟩
instance : Fd Try.prog 29 4 4 24 := ⟨_, _, Try.underlying29, rfl, rfl, rfl⟩
instance : Fd Try.prog 29 5 5 24 := ⟨_, _, Try.underlying29, rfl, rfl, rfl⟩
instance : Fd Try.prog 29 6 6 24 := ⟨_, _, Try.underlying29, rfl, rfl, rfl⟩
instance : Inf Try.prog 30 (.agg #[(.int .u32 0), (.int .u8 0), (.int .i32 0), (.int .u32 0), (.int .u32 0), (.int .u32 0), (.int .u32 0)]) 7 28 := Inf.of (by kernel_rfl) rfl
instance : Ta Try.prog 30 true := ⟨Try.isAgg30⟩
instance : Pl Try.prog 30 [(0, 1), (1, 1), (2, 1), (3, 1), (4, 1), (5, 1), (6, 1)] := ⟨_, Try.underlying30, fun w => by kernel_rfl⟩
instance : Fd Try.prog 30 0 0 24 := ⟨_, _, Try.underlying30, rfl, rfl, rfl⟩
instance : Fd Try.prog 30 1 1 5 := ⟨_, _, Try.underlying30, rfl, rfl, rfl⟩
instance : Fd Try.prog 30 2 2 21 := ⟨_, _, Try.underlying30, rfl, rfl, rfl⟩
instance : Fd Try.prog 30 3 3 24 := ⟨_, _, Try.underlying30, rfl, rfl, rfl⟩
instance : Fd Try.prog 30 4 4 24 := ⟨_, _, Try.underlying30, rfl, rfl, rfl⟩
instance : Fd Try.prog 30 5 5 24 := ⟨_, _, Try.underlying30, rfl, rfl, rfl⟩
instance : Fd Try.prog 30 6 6 24 := ⟨_, _, Try.underlying30, rfl, rfl, rfl⟩
instance : Inf Try.prog 31 (.pointer none) 1 8 := Inf.of (by kernel_rfl) rfl
instance : Ta Try.prog 31 false := ⟨Try.isAgg31⟩
instance : Pn Try.prog 31 94 := ⟨Try.underlying31⟩
instance : Inf Try.prog 32 .nilFunc 1 8 := Inf.of (by kernel_rfl) rfl
instance : Ta Try.prog 32 false := ⟨Try.isAgg32⟩
instance : Inf Try.prog 33 (.agg #[(.bool false), (.int .u32 0), (.int .u64 0)]) 3 16 := Inf.of (by kernel_rfl) rfl
instance : Ta Try.prog 33 true := ⟨Try.isAgg33⟩
instance : Pl Try.prog 33 [(0, 1), (1, 1), (2, 1)] := ⟨_, Try.underlying33, fun w => by kernel_rfl⟩
instance : Fd Try.prog 33 0 0 4 := ⟨_, _, Try.underlying33, rfl, rfl, rfl⟩
instance : Fd Try.prog 33 1 1 24 := ⟨_, _, Try.underlying33, rfl, rfl, rfl⟩
instance : Fd Try.prog 33 2 2 22 := ⟨_, _, Try.underlying33, rfl, rfl, rfl⟩
instance : Inf Try.prog 34 (.agg #[(.bool false), (.int .u32 0), (.int .u64 0)]) 3 16 := Inf.of (by kernel_rfl) rfl
instance : Ta Try.prog 34 true := ⟨Try.isAgg34⟩
instance : Pl Try.prog 34 [(0, 1), (1, 1), (2, 1)] := ⟨_, Try.underlying34, fun w => by kernel_rfl⟩
instance : Fd Try.prog 34 0 0 4 := ⟨_, _, Try.underlying34, rfl, rfl, rfl⟩
instance : Fd Try.prog 34 1 1 24 := ⟨_, _, Try.underlying34, rfl, rfl, rfl⟩
instance : Fd Try.prog 34 2 2 22 := ⟨_, _, Try.underlying34, rfl, rfl, rfl⟩
instance : Inf Try.prog 35 (.agg #[(.int .u32 0), (.int .u8 0), (.int .i32 0), (.int .u32 0), (.int .u32 0), (.int .u32 0), (.int .u32 0)]) 7 28 := Inf.of (by kernel_rfl) rfl
instance : Ta Try.prog 35 true := ⟨Try.isAgg35⟩
instance : Pl Try.prog 35 [(0, 1), (1, 1), (2, 1), (3, 1), (4, 1), (5, 1), (6, 1)] := ⟨_, Try.underlying35, fun w => by kernel_rfl⟩
instance : Fd Try.prog 35 0 0 24 := ⟨_, _, Try.underlying35, rfl, rfl, rfl⟩
instance : Fd Try.prog 35 1 1 5 := ⟨_, _, Try.underlying35, rfl, rfl, rfl⟩
instance : Fd Try.prog 35 2 2 21 := ⟨_, _, Try.underlying35, rfl, rfl, rfl⟩
instance : Fd Try.prog 35 3 3 24 := ⟨_, _, Try.underlying35, rfl, rfl, rfl⟩
instance : Fd Try.prog 35 4 4 24 := ⟨_, _, Try.underlying35, rfl, rfl, rfl⟩
instance : Fd Try.prog 35 5 5 24 := ⟨_, _, Try.underlying35, rfl, rfl, rfl⟩
instance : Fd Try.prog 35 6 6 24 := ⟨_, _, Try.underlying35, rfl, rfl, rfl⟩
instance : Inf Try.prog 36 (.slice none 0 0) 1 24 := Inf.of (by kernel_rfl) rfl
instance : Ta Try.prog 36 false := ⟨Try.isAgg36⟩
instance : Sl Try.prog 36 35 := ⟨Try.underlying36⟩
instance : Inf Try.prog 37 .nilFunc 1 8 := Inf.of (by kernel_rfl) rfl
instance : Ta Try.prog 37 false := ⟨Try.isAgg37⟩
instance : Inf Try.prog 38 (.slice none 0 0) 1 24 := Inf.of (by kernel_rfl) rfl
instance : Ta Try.prog 38 false := ⟨Try.isAgg38⟩
instance : Sl Try.prog 38 30 := ⟨Try.underlying38⟩
instance : Inf Try.prog 39 .nilFunc 1 8 := Inf.of (by kernel_rfl) rfl
instance : Ta Try.prog 39 false := ⟨Try.isAgg39⟩
instance : Inf Try.prog 40 .nilFunc 1 8 := Inf.of (by kernel_rfl) rfl
instance : Ta Try.prog 40 false := ⟨Try.isAgg40⟩
instance : Inf Try.prog 41 .nilFunc 1 8 := Inf.of (by kernel_rfl) rfl
instance : Ta Try.prog 41 false := ⟨Try.isAgg41⟩
instance : Inf Try.prog 42 (.agg #[(.int .u32 0), (.int .u64 0), (.int .u32 0), (.int .u32 0), (.int .u32 0), (.slice none 0 0)]) 6 56 := Inf.of (by kernel_rfl) rfl
instance : Ta Try.prog 42 true := ⟨Try.isAgg42⟩
instance : Pl Try.prog 42 [(0, 1), (1, 1), (2, 1), (3, 1), (4, 1), (5, 1)] := ⟨_, Try.underlying42, fun w => by kernel_rfl⟩
instance : Fd Try.prog 42 0 0 24 := ⟨_, _, Try.underlying42, rfl, rfl, rfl⟩
instance : Fd Try.prog 42 1 1 22 := ⟨_, _, Try.underlying42, rfl, rfl, rfl⟩
instance : Fd Try.prog 42 2 2 24 := ⟨_, _, Try.underlying42, rfl, rfl, rfl⟩
instance : Fd Try.prog 42 3 3 24 := ⟨_, _, Try.underlying42, rfl, rfl, rfl⟩
instance : Fd Try.prog 42 4 4 24 := ⟨_, _, Try.underlying42, rfl, rfl, rfl⟩
instance : Fd Try.prog 42 5 5 38 := ⟨_, _, Try.underlying42, rfl, rfl, rfl⟩
instance : Inf Try.prog 43 (.agg #[(.int .u32 0), (.int .u64 0), (.int .u32 0), (.int .u32 0), (.int .u32 0), (.slice none 0 0)]) 6 56 := Inf.of (by kernel_rfl) rfl
instance : Ta Try.prog 43 true := ⟨Try.isAgg43⟩
instance : Pl Try.prog 43 [(0, 1), (1, 1), (2, 1), (3, 1), (4, 1), (5, 1)] := ⟨_, Try.underlying43, fun w => by kernel_rfl⟩
instance : Fd Try.prog 43 0 0 24 := ⟨_, _, Try.underlying43, rfl, rfl, rfl⟩
instance : Fd Try.prog 43 1 1 22 := ⟨_, _, Try.underlying43, rfl, rfl, rfl⟩
instance : Fd Try.prog 43 2 2 24 := ⟨_, _, Try.underlying43, rfl, rfl, rfl⟩
instance : Fd Try.prog 43 3 3 24 := ⟨_, _, Try.underlying43, rfl, rfl, rfl⟩
instance : Fd Try.prog 43 4 4 24 := ⟨_, _, Try.underlying43, rfl, rfl, rfl⟩
instance : Fd Try.prog 43 5 5 38 := ⟨_, _, Try.underlying43, rfl, rfl, rfl⟩
instance : Inf Try.prog 44 .nilFunc 1 8 := Inf.of (by kernel_rfl) rfl
instance : Ta Try.prog 44 false := ⟨Try.isAgg44⟩
instance : Inf Try.prog 45 (.pointer none) 1 8 := Inf.of (by kernel_rfl) rfl
instance : Ta Try.prog 45 false := ⟨Try.isAgg45⟩
instance : Pn Try.prog 45 104 := ⟨Try.underlying45⟩
instance : Inf Try.prog 46 .nilFunc 1 8 := Inf.of (by kernel_rfl) rfl
instance : Ta Try.prog 46 false := ⟨Try.isAgg46⟩
instance : Inf Try.prog 47 (.int .u16 0) 1 2 := Inf.of (by kernel_rfl) rfl
instance : Ta Try.prog 47 false := ⟨Try.isAgg47⟩
instance : Ik Try.prog 47 .u16 := ⟨Try.underlying47⟩
instance : Inf Try.prog 48 (.slice none 0 0) 1 24 := Inf.of (by kernel_rfl) rfl
instance : Ta Try.prog 48 false := ⟨Try.isAgg48⟩
instance : Sl Try.prog 48 24 := ⟨Try.underlying48⟩
instance : Inf Try.prog 49 (.slice none 0 0) 1 24 := Inf.of (by kernel_rfl) rfl
instance : Ta Try.prog 49 false := ⟨Try.isAgg49⟩
instance : Sl Try.prog 49 5 := ⟨Try.underlying49⟩
instance : Inf Try.prog 50 (.agg #[(.bool false), (.int .u8 0), (.int .u16 0), (.int .u32 0), (.int .u32 0), (.slice none 0 0), (.bool false), (.int .u16 0), (.slice none 0 0), (.slice none 0 0), (.int .u8 0)]) 11 104 := Inf.of (by kernel_rfl) rfl
instance : Ta Try.prog 50 true := ⟨Try.isAgg50⟩
instance : Pl Try.prog 50 [(0, 1), (1, 1), (2, 1), (3, 1), (4, 1), (5, 1), (6, 1), (7, 1), (8, 1), (9, 1), (10, 1)] := ⟨_, Try.underlying50, fun w => by kernel_rfl⟩
instance : Fd Try.prog 50 0 0 4 := ⟨_, _, Try.underlying50, rfl, rfl, rfl⟩
instance : Fd Try.prog 50 1 1 5 := ⟨_, _, Try.underlying50, rfl, rfl, rfl⟩
instance : Fd Try.prog 50 2 2 47 := ⟨_, _, Try.underlying50, rfl, rfl, rfl⟩
instance : Fd Try.prog 50 3 3 24 := ⟨_, _, Try.underlying50, rfl, rfl, rfl⟩
instance : Fd Try.prog 50 4 4 24 := ⟨_, _, Try.underlying50, rfl, rfl, rfl⟩
instance : Fd Try.prog 50 5 5 48 := ⟨_, _, Try.underlying50, rfl, rfl, rfl⟩
instance : Fd Try.prog 50 6 6 4 := ⟨_, _, Try.underlying50, rfl, rfl, rfl⟩
instance : Fd Try.prog 50 7 7 47 := ⟨_, _, Try.underlying50, rfl, rfl, rfl⟩
instance : Fd Try.prog 50 8 8 49 := ⟨_, _, Try.underlying50, rfl, rfl, rfl⟩
instance : Fd Try.prog 50 9 9 49 := ⟨_, _, Try.underlying50, rfl, rfl, rfl⟩
instance : Fd Try.prog 50 10 10 5 := ⟨_, _, Try.underlying50, rfl, rfl, rfl⟩
instance : Inf Try.prog 51 (.agg #[(.bool false), (.int .u8 0), (.int .u16 0), (.int .u32 0), (.int .u32 0), (.slice none 0 0), (.bool false), (.int .u16 0), (.slice none 0 0), (.slice none 0 0), (.int .u8 0)]) 11 104 := Inf.of (by kernel_rfl) rfl
instance : Ta Try.prog 51 true := ⟨Try.isAgg51⟩
instance : Pl Try.prog 51 [(0, 1), (1, 1), (2, 1), (3, 1), (4, 1), (5, 1), (6, 1), (7, 1), (8, 1), (9, 1), (10, 1)] := ⟨_, Try.underlying51, fun w => by kernel_rfl⟩
instance : Fd Try.prog 51 0 0 4 := ⟨_, _, Try.underlying51, rfl, rfl, rfl⟩
instance : Fd Try.prog 51 1 1 5 := ⟨_, _, Try.underlying51, rfl, rfl, rfl⟩
instance : Fd Try.prog 51 2 2 47 := ⟨_, _, Try.underlying51, rfl, rfl, rfl⟩
instance : Fd Try.prog 51 3 3 24 := ⟨_, _, Try.underlying51, rfl, rfl, rfl⟩
instance : Fd Try.prog 51 4 4 24 := ⟨_, _, Try.underlying51, rfl, rfl, rfl⟩
instance : Fd Try.prog 51 5 5 48 := ⟨_, _, Try.underlying51, rfl, rfl, rfl⟩
instance : Fd Try.prog 51 6 6 4 := ⟨_, _, Try.underlying51, rfl, rfl, rfl⟩
instance : Fd Try.prog 51 7 7 47 := ⟨_, _, Try.underlying51, rfl, rfl, rfl⟩
instance : Fd Try.prog 51 8 8 49 := ⟨_, _, Try.underlying51, rfl, rfl, rfl⟩
instance : Fd Try.prog 51 9 9 49 := ⟨_, _, Try.underlying51, rfl, rfl, rfl⟩
instance : Fd Try.prog 51 10 10 5 := ⟨_, _, Try.underlying51, rfl, rfl, rfl⟩
instance : Inf Try.prog 53 .nilFunc 1 8 := Inf.of (by kernel_rfl) rfl
instance : Ta Try.prog 53 false := ⟨Try.isAgg53⟩
instance : Inf Try.prog 54 .nilFunc 1 8 := Inf.of (by kernel_rfl) rfl
instance : Ta Try.prog 54 false := ⟨Try.isAgg54⟩
instance : Inf Try.prog 55 (.int .i64 0) 1 8 := Inf.of (by kernel_rfl) rfl
instance : Ta Try.prog 55 false := ⟨Try.isAgg55⟩
instance : Ik Try.prog 55 .i64 := ⟨Try.underlying55⟩
instance : Inf Try.prog 57 .nilFunc 1 8 := Inf.of (by kernel_rfl) rfl
instance : Ta Try.prog 57 false := ⟨Try.isAgg57⟩
instance : Inf Try.prog 58 .nilFunc 1 8 := Inf.of (by kernel_rfl) rfl
instance : Ta Try.prog 58 false := ⟨Try.isAgg58⟩
instance : Inf Try.prog 59 .nilFunc 1 8 := Inf.of (by kernel_rfl) rfl
instance : Ta Try.prog 59 false := ⟨Try.isAgg59⟩
instance : Inf Try.prog 60 (.agg #[(.int .u32 0), (.int .u64 0), (.int .u32 0), (.int .u32 0), (.int .u32 0), (.slice none 0 0)]) 6 56 := Inf.of (by kernel_rfl) rfl
instance : Ta Try.prog 60 true := ⟨Try.isAgg60⟩
instance : Pl Try.prog 60 [(0, 1), (1, 1), (2, 1), (3, 1), (4, 1), (5, 1)] := ⟨_, Try.underlying60, fun w => by kernel_rfl⟩
instance : Fd Try.prog 60 0 0 24 := ⟨_, _, Try.underlying60, rfl, rfl, rfl⟩
instance : Fd Try.prog 60 1 1 22 := ⟨_, _, Try.underlying60, rfl, rfl, rfl⟩
instance : Fd Try.prog 60 2 2 24 := ⟨_, _, Try.underlying60, rfl, rfl, rfl⟩
instance : Fd Try.prog 60 3 3 24 := ⟨_, _, Try.underlying60, rfl, rfl, rfl⟩
instance : Fd Try.prog 60 4 4 24 := ⟨_, _, Try.underlying60, rfl, rfl, rfl⟩
instance : Fd Try.prog 60 5 5 36 := ⟨_, _, Try.underlying60, rfl, rfl, rfl⟩
instance : Inf Try.prog 61 (.agg #[(.int .u32 0), (.int .u64 0), (.int .u32 0), (.int .u32 0), (.int .u32 0), (.slice none 0 0)]) 6 56 := Inf.of (by kernel_rfl) rfl
instance : Ta Try.prog 61 true := ⟨Try.isAgg61⟩
instance : Pl Try.prog 61 [(0, 1), (1, 1), (2, 1), (3, 1), (4, 1), (5, 1)] := ⟨_, Try.underlying61, fun w => by kernel_rfl⟩
instance : Fd Try.prog 61 0 0 24 := ⟨_, _, Try.underlying61, rfl, rfl, rfl⟩
instance : Fd Try.prog 61 1 1 22 := ⟨_, _, Try.underlying61, rfl, rfl, rfl⟩
instance : Fd Try.prog 61 2 2 24 := ⟨_, _, Try.underlying61, rfl, rfl, rfl⟩
instance : Fd Try.prog 61 3 3 24 := ⟨_, _, Try.underlying61, rfl, rfl, rfl⟩
instance : Fd Try.prog 61 4 4 24 := ⟨_, _, Try.underlying61, rfl, rfl, rfl⟩
instance : Fd Try.prog 61 5 5 36 := ⟨_, _, Try.underlying61, rfl, rfl, rfl⟩
instance : Inf Try.prog 62 .nilFunc 1 8 := Inf.of (by kernel_rfl) rfl
instance : Ta Try.prog 62 false := ⟨Try.isAgg62⟩
instance : Inf Try.prog 63 .nilFunc 1 8 := Inf.of (by kernel_rfl) rfl
instance : Ta Try.prog 63 false := ⟨Try.isAgg63⟩
instance : Inf Try.prog 64 (.slice none 0 0) 1 24 := Inf.of (by kernel_rfl) rfl
instance : Ta Try.prog 64 false := ⟨Try.isAgg64⟩
instance : Sl Try.prog 64 70 := ⟨Try.underlying64⟩
instance : Inf Try.prog 65 .nilFunc 1 8 := Inf.of (by kernel_rfl) rfl
instance : Ta Try.prog 65 false := ⟨Try.isAgg65⟩
instance : Inf Try.prog 66 (.agg #[(.int .u32 0), (.int .u64 0), (.int .u64 0), (.int .u32 0), (.int .u64 0)]) 5 40 := Inf.of (by kernel_rfl) rfl
instance : Ta Try.prog 66 true := ⟨Try.isAgg66⟩
instance : Pl Try.prog 66 [(0, 1), (1, 1), (2, 1), (3, 1), (4, 1)] := ⟨_, Try.underlying66, fun w => by kernel_rfl⟩
instance : Fd Try.prog 66 0 0 24 := ⟨_, _, Try.underlying66, rfl, rfl, rfl⟩
instance : Fd Try.prog 66 1 1 22 := ⟨_, _, Try.underlying66, rfl, rfl, rfl⟩
instance : Fd Try.prog 66 2 2 22 := ⟨_, _, Try.underlying66, rfl, rfl, rfl⟩
instance : Fd Try.prog 66 3 3 24 := ⟨_, _, Try.underlying66, rfl, rfl, rfl⟩
instance : Fd Try.prog 66 4 4 22 := ⟨_, _, Try.underlying66, rfl, rfl, rfl⟩
instance : Inf Try.prog 67 (.agg #[(.int .u32 0), (.int .u64 0), (.int .u64 0), (.int .u32 0), (.int .u64 0)]) 5 40 := Inf.of (by kernel_rfl) rfl
instance : Ta Try.prog 67 true := ⟨Try.isAgg67⟩
instance : Pl Try.prog 67 [(0, 1), (1, 1), (2, 1), (3, 1), (4, 1)] := ⟨_, Try.underlying67, fun w => by kernel_rfl⟩
instance : Fd Try.prog 67 0 0 24 := ⟨_, _, Try.underlying67, rfl, rfl, rfl⟩
instance : Fd Try.prog 67 1 1 22 := ⟨_, _, Try.underlying67, rfl, rfl, rfl⟩
instance : Fd Try.prog 67 2 2 22 := ⟨_, _, Try.underlying67, rfl, rfl, rfl⟩
instance : Fd Try.prog 67 3 3 24 := ⟨_, _, Try.underlying67, rfl, rfl, rfl⟩
instance : Fd Try.prog 67 4 4 22 := ⟨_, _, Try.underlying67, rfl, rfl, rfl⟩
instance : Inf Try.prog 68 .nilFunc 1 8 := Inf.of (by kernel_rfl) rfl
instance : Ta Try.prog 68 false := ⟨Try.isAgg68⟩
instance : Inf Try.prog 69 (.agg #[(.bool false), (.int .u8 0), (.int .u16 0), (.int .u32 0), (.int .u32 0), (.slice none 0 0), (.bool false), (.int .u16 0), (.slice none 0 0), (.slice none 0 0), (.int .u8 0), (.int .u64 0)]) 12 112 := Inf.of (by kernel_rfl) rfl
instance : Ta Try.prog 69 true := ⟨Try.isAgg69⟩
instance : Pl Try.prog 69 [(0, 11), (11, 1)] := ⟨_, Try.underlying69, fun w => by kernel_rfl⟩
instance : Fd Try.prog 69 0 0 51 := ⟨_, _, Try.underlying69, rfl, rfl, rfl⟩
instance : Fd Try.prog 69 1 11 22 := ⟨_, _, Try.underlying69, rfl, rfl, rfl⟩
instance : Inf Try.prog 70 (.agg #[(.bool false), (.int .u8 0), (.int .u16 0), (.int .u32 0), (.int .u32 0), (.slice none 0 0), (.bool false), (.int .u16 0), (.slice none 0 0), (.slice none 0 0), (.int .u8 0), (.int .u64 0)]) 12 112 := Inf.of (by kernel_rfl) rfl
instance : Ta Try.prog 70 true := ⟨Try.isAgg70⟩
instance : Pl Try.prog 70 [(0, 11), (11, 1)] := ⟨_, Try.underlying70, fun w => by kernel_rfl⟩
instance : Fd Try.prog 70 0 0 51 := ⟨_, _, Try.underlying70, rfl, rfl, rfl⟩
instance : Fd Try.prog 70 1 11 22 := ⟨_, _, Try.underlying70, rfl, rfl, rfl⟩
instance : Inf Try.prog 71 .nilFunc 1 8 := Inf.of (by kernel_rfl) rfl
instance : Ta Try.prog 71 false := ⟨Try.isAgg71⟩
instance : Inf Try.prog 72 (.agg #[(.bool false), (.int .u8 0), (.int .u16 0), (.int .u32 0), (.int .u32 0), (.slice none 0 0), (.bool false), (.int .u16 0), (.slice none 0 0), (.slice none 0 0), (.int .u8 0)]) 11 104 := Inf.of (by kernel_rfl) rfl
instance : Ta Try.prog 72 true := ⟨Try.isAgg72⟩
instance : Pl Try.prog 72 [(0, 1), (1, 1), (2, 1), (3, 1), (4, 1), (5, 1), (6, 1), (7, 1), (8, 1), (9, 1), (10, 1)] := ⟨_, Try.underlying72, fun w => by kernel_rfl⟩
instance : Fd Try.prog 72 0 0 4 := ⟨_, _, Try.underlying72, rfl, rfl, rfl⟩
instance : Fd Try.prog 72 1 1 5 := ⟨_, _, Try.underlying72, rfl, rfl, rfl⟩
instance : Fd Try.prog 72 2 2 47 := ⟨_, _, Try.underlying72, rfl, rfl, rfl⟩
instance : Fd Try.prog 72 3 3 24 := ⟨_, _, Try.underlying72, rfl, rfl, rfl⟩
instance : Fd Try.prog 72 4 4 24 := ⟨_, _, Try.underlying72, rfl, rfl, rfl⟩
instance : Fd Try.prog 72 5 5 48 := ⟨_, _, Try.underlying72, rfl, rfl, rfl⟩
instance : Fd Try.prog 72 6 6 4 := ⟨_, _, Try.underlying72, rfl, rfl, rfl⟩
instance : Fd Try.prog 72 7 7 47 := ⟨_, _, Try.underlying72, rfl, rfl, rfl⟩
instance : Fd Try.prog 72 8 8 49 := ⟨_, _, Try.underlying72, rfl, rfl, rfl⟩
instance : Fd Try.prog 72 9 9 49 := ⟨_, _, Try.underlying72, rfl, rfl, rfl⟩
instance : Fd Try.prog 72 10 10 5 := ⟨_, _, Try.underlying72, rfl, rfl, rfl⟩
instance : Inf Try.prog 73 .nilFunc 1 8 := Inf.of (by kernel_rfl) rfl
instance : Ta Try.prog 73 false := ⟨Try.isAgg73⟩
instance : Inf Try.prog 74 .nilFunc 1 8 := Inf.of (by kernel_rfl) rfl
instance : Ta Try.prog 74 false := ⟨Try.isAgg74⟩
instance : Inf Try.prog 75 (.slice none 0 0) 1 24 := Inf.of (by kernel_rfl) rfl
instance : Ta Try.prog 75 false := ⟨Try.isAgg75⟩
instance : Sl Try.prog 75 81 := ⟨Try.underlying75⟩
instance : Inf Try.prog 77 .nilFunc 1 8 := Inf.of (by kernel_rfl) rfl
instance : Ta Try.prog 77 false := ⟨Try.isAgg77⟩
instance : Inf Try.prog 79 .nilFunc 1 8 := Inf.of (by kernel_rfl) rfl
instance : Ta Try.prog 79 false := ⟨Try.isAgg79⟩
instance : Inf Try.prog 80 (.agg #[(.int .u8 0), (.int .u8 0), (.slice none 0 0), (.int .u8 0)]) 4 40 := Inf.of (by kernel_rfl) rfl
instance : Ta Try.prog 80 true := ⟨Try.isAgg80⟩
instance : Pl Try.prog 80 [(0, 1), (1, 1), (2, 1), (3, 1)] := ⟨_, Try.underlying80, fun w => by kernel_rfl⟩
instance : Fd Try.prog 80 0 0 5 := ⟨_, _, Try.underlying80, rfl, rfl, rfl⟩
instance : Fd Try.prog 80 1 1 5 := ⟨_, _, Try.underlying80, rfl, rfl, rfl⟩
instance : Fd Try.prog 80 2 2 49 := ⟨_, _, Try.underlying80, rfl, rfl, rfl⟩
instance : Fd Try.prog 80 3 3 5 := ⟨_, _, Try.underlying80, rfl, rfl, rfl⟩
instance : Inf Try.prog 81 (.agg #[(.int .u8 0), (.int .u8 0), (.slice none 0 0), (.int .u8 0)]) 4 40 := Inf.of (by kernel_rfl) rfl
instance : Ta Try.prog 81 true := ⟨Try.isAgg81⟩
instance : Pl Try.prog 81 [(0, 1), (1, 1), (2, 1), (3, 1)] := ⟨_, Try.underlying81, fun w => by kernel_rfl⟩
instance : Fd Try.prog 81 0 0 5 := ⟨_, _, Try.underlying81, rfl, rfl, rfl⟩
instance : Fd Try.prog 81 1 1 5 := ⟨_, _, Try.underlying81, rfl, rfl, rfl⟩
instance : Fd Try.prog 81 2 2 49 := ⟨_, _, Try.underlying81, rfl, rfl, rfl⟩
instance : Fd Try.prog 81 3 3 5 := ⟨_, _, Try.underlying81, rfl, rfl, rfl⟩
instance : Inf Try.prog 82 (.agg #[(.int .u32 0), (.slice none 0 0)]) 2 32 := Inf.of (by kernel_rfl) rfl
instance : Ta Try.prog 82 true := ⟨Try.isAgg82⟩
instance : Pl Try.prog 82 [(0, 1), (1, 1)] := ⟨_, Try.underlying82, fun w => by kernel_rfl⟩
instance : Fd Try.prog 82 0 0 24 := ⟨_, _, Try.underlying82, rfl, rfl, rfl⟩
instance : Fd Try.prog 82 1 1 38 := ⟨_, _, Try.underlying82, rfl, rfl, rfl⟩
instance : Inf Try.prog 83 (.agg #[(.int .u32 0), (.slice none 0 0)]) 2 32 := Inf.of (by kernel_rfl) rfl
instance : Ta Try.prog 83 true := ⟨Try.isAgg83⟩
instance : Pl Try.prog 83 [(0, 1), (1, 1)] := ⟨_, Try.underlying83, fun w => by kernel_rfl⟩
instance : Fd Try.prog 83 0 0 24 := ⟨_, _, Try.underlying83, rfl, rfl, rfl⟩
instance : Fd Try.prog 83 1 1 38 := ⟨_, _, Try.underlying83, rfl, rfl, rfl⟩
instance : Inf Try.prog 85 .nilFunc 1 8 := Inf.of (by kernel_rfl) rfl
instance : Ta Try.prog 85 false := ⟨Try.isAgg85⟩
instance : Inf Try.prog 86 (.slice none 0 0) 1 24 := Inf.of (by kernel_rfl) rfl
instance : Ta Try.prog 86 false := ⟨Try.isAgg86⟩
instance : Sl Try.prog 86 90 := ⟨Try.underlying86⟩
instance : Inf Try.prog 88 .nilFunc 1 8 := Inf.of (by kernel_rfl) rfl
instance : Ta Try.prog 88 false := ⟨Try.isAgg88⟩
instance : Inf Try.prog 89 (.agg #[(.int .u32 0), (.string ⟨#[]⟩)]) 2 24 := Inf.of (by kernel_rfl) rfl
instance : Ta Try.prog 89 true := ⟨Try.isAgg89⟩
instance : Pl Try.prog 89 [(0, 1), (1, 1)] := ⟨_, Try.underlying89, fun w => by kernel_rfl⟩
instance : Fd Try.prog 89 0 0 24 := ⟨_, _, Try.underlying89, rfl, rfl, rfl⟩
instance : Fd Try.prog 89 1 1 9 := ⟨_, _, Try.underlying89, rfl, rfl, rfl⟩
instance : Inf Try.prog 90 (.agg #[(.int .u32 0), (.string ⟨#[]⟩)]) 2 24 := Inf.of (by kernel_rfl) rfl
instance : Ta Try.prog 90 true := ⟨Try.isAgg90⟩
instance : Pl Try.prog 90 [(0, 1), (1, 1)] := ⟨_, Try.underlying90, fun w => by kernel_rfl⟩
instance : Fd Try.prog 90 0 0 24 := ⟨_, _, Try.underlying90, rfl, rfl, rfl⟩
instance : Fd Try.prog 90 1 1 9 := ⟨_, _, Try.underlying90, rfl, rfl, rfl⟩
instance : Inf Try.prog 91 .nilFunc 1 8 := Inf.of (by kernel_rfl) rfl
instance : Ta Try.prog 91 false := ⟨Try.isAgg91⟩
instance : Inf Try.prog 92 (.int .u64 0) 1 8 := Inf.of (by kernel_rfl) rfl
instance : Ta Try.prog 92 false := ⟨Try.isAgg92⟩
instance : Ik Try.prog 92 .u64 := ⟨Try.underlying92⟩
instance : Inf Try.prog 93 (.agg #[(.bool false), (.int .u32 0), (.int .u64 0)]) 3 16 := Inf.of (by kernel_rfl) rfl
instance : Ta Try.prog 93 true := ⟨Try.isAgg93⟩
instance : Pl Try.prog 93 [(0, 1), (1, 1), (2, 1)] := ⟨_, Try.underlying93, fun w => by kernel_rfl⟩
instance : Fd Try.prog 93 0 0 4 := ⟨_, _, Try.underlying93, rfl, rfl, rfl⟩
instance : Fd Try.prog 93 1 1 24 := ⟨_, _, Try.underlying93, rfl, rfl, rfl⟩
instance : Fd Try.prog 93 2 2 22 := ⟨_, _, Try.underlying93, rfl, rfl, rfl⟩
instance : Inf Try.prog 94 (.agg #[(.bool false), (.int .u32 0), (.int .u64 0)]) 3 16 := Inf.of (by kernel_rfl) rfl
instance : Ta Try.prog 94 true := ⟨Try.isAgg94⟩
instance : Pl Try.prog 94 [(0, 1), (1, 1), (2, 1)] := ⟨_, Try.underlying94, fun w => by kernel_rfl⟩
instance : Fd Try.prog 94 0 0 4 := ⟨_, _, Try.underlying94, rfl, rfl, rfl⟩
instance : Fd Try.prog 94 1 1 24 := ⟨_, _, Try.underlying94, rfl, rfl, rfl⟩
instance : Fd Try.prog 94 2 2 22 := ⟨_, _, Try.underlying94, rfl, rfl, rfl⟩
instance : Inf Try.prog 95 .nilFunc 1 8 := Inf.of (by kernel_rfl) rfl
instance : Ta Try.prog 95 false := ⟨Try.isAgg95⟩
instance : Inf Try.prog 96 (.agg #[]) 0 0 := Inf.of (by kernel_rfl) rfl
instance : Ta Try.prog 96 true := ⟨Try.isAgg96⟩
instance : Pl Try.prog 96 [] := ⟨_, Try.underlying96, fun w => by kernel_rfl⟩
instance : Inf Try.prog 97 (.agg #[]) 0 0 := Inf.of (by kernel_rfl) rfl
instance : Ta Try.prog 97 true := ⟨Try.isAgg97⟩
instance : Pl Try.prog 97 [] := ⟨_, Try.underlying97, fun w => by kernel_rfl⟩
instance : Inf Try.prog 98 (.agg #[]) 0 0 := Inf.of (by kernel_rfl) rfl
instance : Ta Try.prog 98 true := ⟨Try.isAgg98⟩
instance : Pl Try.prog 98 [] := ⟨_, Try.underlying98, fun w => by kernel_rfl⟩
instance : Inf Try.prog 99 (.agg #[(.int .u64 0)]) 1 8 := Inf.of (by kernel_rfl) rfl
instance : Ta Try.prog 99 true := ⟨Try.isAgg99⟩
instance : Pl Try.prog 99 [(0, 0), (0, 0), (0, 1)] := ⟨_, Try.underlying99, fun w => by kernel_rfl⟩
instance : Fd Try.prog 99 0 0 97 := ⟨_, _, Try.underlying99, rfl, rfl, rfl⟩
instance : Fd Try.prog 99 1 0 98 := ⟨_, _, Try.underlying99, rfl, rfl, rfl⟩
instance : Fd Try.prog 99 2 0 22 := ⟨_, _, Try.underlying99, rfl, rfl, rfl⟩
instance : Inf Try.prog 100 (.agg #[(.int .u64 0)]) 1 8 := Inf.of (by kernel_rfl) rfl
instance : Ta Try.prog 100 true := ⟨Try.isAgg100⟩
instance : Pl Try.prog 100 [(0, 0), (0, 0), (0, 1)] := ⟨_, Try.underlying100, fun w => by kernel_rfl⟩
instance : Fd Try.prog 100 0 0 97 := ⟨_, _, Try.underlying100, rfl, rfl, rfl⟩
instance : Fd Try.prog 100 1 0 98 := ⟨_, _, Try.underlying100, rfl, rfl, rfl⟩
instance : Fd Try.prog 100 2 0 22 := ⟨_, _, Try.underlying100, rfl, rfl, rfl⟩
instance : Inf Try.prog 101 (.agg #[(.int .u32 0)]) 1 4 := Inf.of (by kernel_rfl) rfl
instance : Ta Try.prog 101 true := ⟨Try.isAgg101⟩
instance : Pl Try.prog 101 [(0, 0), (0, 1)] := ⟨_, Try.underlying101, fun w => by kernel_rfl⟩
instance : Fd Try.prog 101 0 0 97 := ⟨_, _, Try.underlying101, rfl, rfl, rfl⟩
instance : Fd Try.prog 101 1 0 24 := ⟨_, _, Try.underlying101, rfl, rfl, rfl⟩
instance : Inf Try.prog 102 (.agg #[(.int .u32 0)]) 1 4 := Inf.of (by kernel_rfl) rfl
instance : Ta Try.prog 102 true := ⟨Try.isAgg102⟩
instance : Pl Try.prog 102 [(0, 0), (0, 1)] := ⟨_, Try.underlying102, fun w => by kernel_rfl⟩
instance : Fd Try.prog 102 0 0 97 := ⟨_, _, Try.underlying102, rfl, rfl, rfl⟩
instance : Fd Try.prog 102 1 0 24 := ⟨_, _, Try.underlying102, rfl, rfl, rfl⟩
instance : Inf Try.prog 103 (.agg #[(.int .u32 0), (.int .u64 0), (.int .u64 0), (.int .u32 0), (.int .u64 0)]) 5 40 := Inf.of (by kernel_rfl) rfl
instance : Ta Try.prog 103 true := ⟨Try.isAgg103⟩
instance : Pl Try.prog 103 [(0, 1), (1, 1), (2, 1), (3, 1), (4, 1)] := ⟨_, Try.underlying103, fun w => by kernel_rfl⟩
instance : Fd Try.prog 103 0 0 24 := ⟨_, _, Try.underlying103, rfl, rfl, rfl⟩
instance : Fd Try.prog 103 1 1 100 := ⟨_, _, Try.underlying103, rfl, rfl, rfl⟩
instance : Fd Try.prog 103 2 2 100 := ⟨_, _, Try.underlying103, rfl, rfl, rfl⟩
instance : Fd Try.prog 103 3 3 102 := ⟨_, _, Try.underlying103, rfl, rfl, rfl⟩
instance : Fd Try.prog 103 4 4 100 := ⟨_, _, Try.underlying103, rfl, rfl, rfl⟩
instance : Inf Try.prog 104 (.agg #[(.int .u32 0), (.int .u64 0), (.int .u64 0), (.int .u32 0), (.int .u64 0)]) 5 40 := Inf.of (by kernel_rfl) rfl
instance : Ta Try.prog 104 true := ⟨Try.isAgg104⟩
instance : Pl Try.prog 104 [(0, 1), (1, 1), (2, 1), (3, 1), (4, 1)] := ⟨_, Try.underlying104, fun w => by kernel_rfl⟩
instance : Fd Try.prog 104 0 0 24 := ⟨_, _, Try.underlying104, rfl, rfl, rfl⟩
instance : Fd Try.prog 104 1 1 100 := ⟨_, _, Try.underlying104, rfl, rfl, rfl⟩
instance : Fd Try.prog 104 2 2 100 := ⟨_, _, Try.underlying104, rfl, rfl, rfl⟩
instance : Fd Try.prog 104 3 3 102 := ⟨_, _, Try.underlying104, rfl, rfl, rfl⟩
instance : Fd Try.prog 104 4 4 100 := ⟨_, _, Try.underlying104, rfl, rfl, rfl⟩
instance : Inf Try.prog 105 .nilFunc 1 8 := Inf.of (by kernel_rfl) rfl
instance : Ta Try.prog 105 false := ⟨Try.isAgg105⟩
instance : Inf Try.prog 106 .nilFunc 1 8 := Inf.of (by kernel_rfl) rfl
instance : Ta Try.prog 106 false := ⟨Try.isAgg106⟩
instance : Inf Try.prog 107 .nilFunc 1 8 := Inf.of (by kernel_rfl) rfl
instance : Ta Try.prog 107 false := ⟨Try.isAgg107⟩
instance : Inf Try.prog 108 .nilFunc 1 8 := Inf.of (by kernel_rfl) rfl
instance : Ta Try.prog 108 false := ⟨Try.isAgg108⟩
instance : Inf Try.prog 110 .nilFunc 1 8 := Inf.of (by kernel_rfl) rfl
instance : Ta Try.prog 110 false := ⟨Try.isAgg110⟩
instance : Inf Try.prog 111 .nilFunc 1 8 := Inf.of (by kernel_rfl) rfl
instance : Ta Try.prog 111 false := ⟨Try.isAgg111⟩
instance : Inf Try.prog 112 .nilFunc 1 8 := Inf.of (by kernel_rfl) rfl
instance : Ta Try.prog 112 false := ⟨Try.isAgg112⟩
instance : Inf Try.prog 113 .nilFunc 1 8 := Inf.of (by kernel_rfl) rfl
instance : Ta Try.prog 113 false := ⟨Try.isAgg113⟩
instance : Inf Try.prog 114 .nilFunc 1 8 := Inf.of (by kernel_rfl) rfl
instance : Ta Try.prog 114 false := ⟨Try.isAgg114⟩
instance : Inf Try.prog 115 (.agg #[(.int .u8 0), (.int .u8 0), (.slice none 0 0), (.int .u8 0)]) 4 40 := Inf.of (by kernel_rfl) rfl
instance : Ta Try.prog 115 true := ⟨Try.isAgg115⟩
instance : Pl Try.prog 115 [(0, 1), (1, 1), (2, 1), (3, 1)] := ⟨_, Try.underlying115, fun w => by kernel_rfl⟩
instance : Fd Try.prog 115 0 0 5 := ⟨_, _, Try.underlying115, rfl, rfl, rfl⟩
instance : Fd Try.prog 115 1 1 5 := ⟨_, _, Try.underlying115, rfl, rfl, rfl⟩
instance : Fd Try.prog 115 2 2 49 := ⟨_, _, Try.underlying115, rfl, rfl, rfl⟩
instance : Fd Try.prog 115 3 3 5 := ⟨_, _, Try.underlying115, rfl, rfl, rfl⟩
instance : Inf Try.prog 117 .nilFunc 1 8 := Inf.of (by kernel_rfl) rfl
instance : Ta Try.prog 117 false := ⟨Try.isAgg117⟩
instance : Inf Try.prog 118 (.agg #[(.int .u32 0), (.slice none 0 0)]) 2 32 := Inf.of (by kernel_rfl) rfl
instance : Ta Try.prog 118 true := ⟨Try.isAgg118⟩
instance : Pl Try.prog 118 [(0, 1), (1, 1)] := ⟨_, Try.underlying118, fun w => by kernel_rfl⟩
instance : Fd Try.prog 118 0 0 24 := ⟨_, _, Try.underlying118, rfl, rfl, rfl⟩
instance : Fd Try.prog 118 1 1 36 := ⟨_, _, Try.underlying118, rfl, rfl, rfl⟩
instance : Inf Try.prog 119 (.agg #[(.int .u32 0), (.slice none 0 0)]) 2 32 := Inf.of (by kernel_rfl) rfl
instance : Ta Try.prog 119 true := ⟨Try.isAgg119⟩
instance : Pl Try.prog 119 [(0, 1), (1, 1)] := ⟨_, Try.underlying119, fun w => by kernel_rfl⟩
instance : Fd Try.prog 119 0 0 24 := ⟨_, _, Try.underlying119, rfl, rfl, rfl⟩
instance : Fd Try.prog 119 1 1 36 := ⟨_, _, Try.underlying119, rfl, rfl, rfl⟩
instance : Inf Try.prog 120 .nilFunc 1 8 := Inf.of (by kernel_rfl) rfl
instance : Ta Try.prog 120 false := ⟨Try.isAgg120⟩
instance : Inf Try.prog 121 .nilFunc 1 8 := Inf.of (by kernel_rfl) rfl
instance : Ta Try.prog 121 false := ⟨Try.isAgg121⟩
instance : Inf Try.prog 122 (.agg #[(.int .u32 0), (.string ⟨#[]⟩)]) 2 24 := Inf.of (by kernel_rfl) rfl
instance : Ta Try.prog 122 true := ⟨Try.isAgg122⟩
instance : Pl Try.prog 122 [(0, 1), (1, 1)] := ⟨_, Try.underlying122, fun w => by kernel_rfl⟩
instance : Fd Try.prog 122 0 0 24 := ⟨_, _, Try.underlying122, rfl, rfl, rfl⟩
instance : Fd Try.prog 122 1 1 9 := ⟨_, _, Try.underlying122, rfl, rfl, rfl⟩
instance : Inf Try.prog 123 (.slice none 0 0) 1 24 := Inf.of (by kernel_rfl) rfl
instance : Ta Try.prog 123 false := ⟨Try.isAgg123⟩
instance : Sl Try.prog 123 122 := ⟨Try.underlying123⟩
instance : Inf Try.prog 124 .nilFunc 1 8 := Inf.of (by kernel_rfl) rfl
instance : Ta Try.prog 124 false := ⟨Try.isAgg124⟩
instance : Inf Try.prog 125 (.slice none 0 0) 1 24 := Inf.of (by kernel_rfl) rfl
instance : Ta Try.prog 125 false := ⟨Try.isAgg125⟩
instance : Sl Try.prog 125 115 := ⟨Try.underlying125⟩
instance : Inf Try.prog 127 .nilFunc 1 8 := Inf.of (by kernel_rfl) rfl
instance : Ta Try.prog 127 false := ⟨Try.isAgg127⟩
instance : Inf Try.prog 128 (.pointer none) 1 8 := Inf.of (by kernel_rfl) rfl
instance : Ta Try.prog 128 false := ⟨Try.isAgg128⟩
instance : Pn Try.prog 128 130 := ⟨Try.underlying128⟩
instance : Inf Try.prog 129 (.agg #[(.slice none 0 0), (.int .i64 0), (.bool false)]) 3 40 := Inf.of (by kernel_rfl) rfl
instance : Ta Try.prog 129 true := ⟨Try.isAgg129⟩
instance : Pl Try.prog 129 [(0, 1), (1, 1), (2, 1)] := ⟨_, Try.underlying129, fun w => by kernel_rfl⟩
instance : Fd Try.prog 129 0 0 49 := ⟨_, _, Try.underlying129, rfl, rfl, rfl⟩
instance : Fd Try.prog 129 1 1 3 := ⟨_, _, Try.underlying129, rfl, rfl, rfl⟩
instance : Fd Try.prog 129 2 2 4 := ⟨_, _, Try.underlying129, rfl, rfl, rfl⟩
instance : Inf Try.prog 130 (.agg #[(.slice none 0 0), (.int .i64 0), (.bool false)]) 3 40 := Inf.of (by kernel_rfl) rfl
instance : Ta Try.prog 130 true := ⟨Try.isAgg130⟩
instance : Pl Try.prog 130 [(0, 1), (1, 1), (2, 1)] := ⟨_, Try.underlying130, fun w => by kernel_rfl⟩
instance : Fd Try.prog 130 0 0 49 := ⟨_, _, Try.underlying130, rfl, rfl, rfl⟩
instance : Fd Try.prog 130 1 1 3 := ⟨_, _, Try.underlying130, rfl, rfl, rfl⟩
instance : Fd Try.prog 130 2 2 4 := ⟨_, _, Try.underlying130, rfl, rfl, rfl⟩
instance : Inf Try.prog 131 .nilFunc 1 8 := Inf.of (by kernel_rfl) rfl
instance : Ta Try.prog 131 false := ⟨Try.isAgg131⟩
instance : Inf Try.prog 132 .nilFunc 1 8 := Inf.of (by kernel_rfl) rfl
instance : Ta Try.prog 132 false := ⟨Try.isAgg132⟩
instance : Inf Try.prog 133 .nilFunc 1 8 := Inf.of (by kernel_rfl) rfl
instance : Ta Try.prog 133 false := ⟨Try.isAgg133⟩
instance : Inf Try.prog 134 (.pointer none) 1 8 := Inf.of (by kernel_rfl) rfl
instance : Ta Try.prog 134 false := ⟨Try.isAgg134⟩
instance : Pn Try.prog 134 100 := ⟨Try.underlying134⟩
instance : Inf Try.prog 135 .nilFunc 1 8 := Inf.of (by kernel_rfl) rfl
instance : Ta Try.prog 135 false := ⟨Try.isAgg135⟩
instance : Inf Try.prog 136 (.pointer none) 1 8 := Inf.of (by kernel_rfl) rfl
instance : Ta Try.prog 136 false := ⟨Try.isAgg136⟩
instance : Pn Try.prog 136 22 := ⟨Try.underlying136⟩
instance : Inf Try.prog 137 (.pointer none) 1 8 := Inf.of (by kernel_rfl) rfl
instance : Ta Try.prog 137 false := ⟨Try.isAgg137⟩
instance : Pn Try.prog 137 102 := ⟨Try.underlying137⟩
instance : Inf Try.prog 138 .nilFunc 1 8 := Inf.of (by kernel_rfl) rfl
instance : Ta Try.prog 138 false := ⟨Try.isAgg138⟩
instance : Inf Try.prog 139 (.pointer none) 1 8 := Inf.of (by kernel_rfl) rfl
instance : Ta Try.prog 139 false := ⟨Try.isAgg139⟩
instance : Pn Try.prog 139 24 := ⟨Try.underlying139⟩
instance : Inf Try.prog 140 .nilFunc 1 8 := Inf.of (by kernel_rfl) rfl
instance : Ta Try.prog 140 false := ⟨Try.isAgg140⟩
instance : Inf Try.prog 141 .nilFunc 1 8 := Inf.of (by kernel_rfl) rfl
instance : Ta Try.prog 141 false := ⟨Try.isAgg141⟩
instance : Inf Try.prog 142 .nilFunc 1 8 := Inf.of (by kernel_rfl) rfl
instance : Ta Try.prog 142 false := ⟨Try.isAgg142⟩
instance : Inf Try.prog 144 .nilFunc 1 8 := Inf.of (by kernel_rfl) rfl
instance : Ta Try.prog 144 false := ⟨Try.isAgg144⟩
instance : Inf Try.prog 145 .nilFunc 1 8 := Inf.of (by kernel_rfl) rfl
instance : Ta Try.prog 145 false := ⟨Try.isAgg145⟩
instance : Inf Try.prog 146 .nilFunc 1 8 := Inf.of (by kernel_rfl) rfl
instance : Ta Try.prog 146 false := ⟨Try.isAgg146⟩
instance : Inf Try.prog 147 .nilFunc 1 8 := Inf.of (by kernel_rfl) rfl
instance : Ta Try.prog 147 false := ⟨Try.isAgg147⟩
instance : Inf Try.prog 148 .nilFunc 1 8 := Inf.of (by kernel_rfl) rfl
instance : Ta Try.prog 148 false := ⟨Try.isAgg148⟩
instance : Inf Try.prog 149 .nilFunc 1 8 := Inf.of (by kernel_rfl) rfl
instance : Ta Try.prog 149 false := ⟨Try.isAgg149⟩
instance : Inf Try.prog 150 .nilFunc 1 8 := Inf.of (by kernel_rfl) rfl
instance : Ta Try.prog 150 false := ⟨Try.isAgg150⟩
instance : Inf Try.prog 151 .nilFunc 1 8 := Inf.of (by kernel_rfl) rfl
instance : Ta Try.prog 151 false := ⟨Try.isAgg151⟩
instance : Inf Try.prog 152 .nilFunc 1 8 := Inf.of (by kernel_rfl) rfl
instance : Ta Try.prog 152 false := ⟨Try.isAgg152⟩
instance : Inf Try.prog 153 .nilFunc 1 8 := Inf.of (by kernel_rfl) rfl
instance : Ta Try.prog 153 false := ⟨Try.isAgg153⟩
instance : Inf Try.prog 154 .nilFunc 1 8 := Inf.of (by kernel_rfl) rfl
instance : Ta Try.prog 154 false := ⟨Try.isAgg154⟩
instance : Inf Try.prog 155 .nilFunc 1 8 := Inf.of (by kernel_rfl) rfl
instance : Ta Try.prog 155 false := ⟨Try.isAgg155⟩
instance : Inf Try.prog 156 .nilFunc 1 8 := Inf.of (by kernel_rfl) rfl
instance : Ta Try.prog 156 false := ⟨Try.isAgg156⟩
instance : Inf Try.prog 157 (.agg #[(.int .u8 0), (.int .u8 0), (.int .u8 0), (.int .u8 0)]) 4 4 := Inf.of (by kernel_rfl) rfl
instance : Ta Try.prog 157 true := ⟨Try.isAgg157⟩
instance : Ar Try.prog 157 4 5 := ⟨Try.underlying157⟩
instance : Inf Try.prog 158 .nilFunc 1 8 := Inf.of (by kernel_rfl) rfl
instance : Ta Try.prog 158 false := ⟨Try.isAgg158⟩
instance : Inf Try.prog 159 (.agg #[(.pointer none), (.pointer none), (.pointer none), (.string ⟨#[]⟩)]) 4 40 := Inf.of (by kernel_rfl) rfl
instance : Ta Try.prog 159 true := ⟨Try.isAgg159⟩
instance : Pl Try.prog 159 [(0, 1), (1, 1), (2, 1), (3, 1)] := ⟨_, Try.underlying159, fun w => by kernel_rfl⟩
instance : Fd Try.prog 159 0 0 17 := ⟨_, _, Try.underlying159, rfl, rfl, rfl⟩
instance : Fd Try.prog 159 1 1 17 := ⟨_, _, Try.underlying159, rfl, rfl, rfl⟩
instance : Fd Try.prog 159 2 2 17 := ⟨_, _, Try.underlying159, rfl, rfl, rfl⟩
instance : Fd Try.prog 159 3 3 9 := ⟨_, _, Try.underlying159, rfl, rfl, rfl⟩
instance : Inf Try.prog 160 (.agg #[(.pointer none), (.pointer none), (.pointer none), (.string ⟨#[]⟩)]) 4 40 := Inf.of (by kernel_rfl) rfl
instance : Ta Try.prog 160 true := ⟨Try.isAgg160⟩
instance : Pl Try.prog 160 [(0, 1), (1, 1), (2, 1), (3, 1)] := ⟨_, Try.underlying160, fun w => by kernel_rfl⟩
instance : Fd Try.prog 160 0 0 17 := ⟨_, _, Try.underlying160, rfl, rfl, rfl⟩
instance : Fd Try.prog 160 1 1 17 := ⟨_, _, Try.underlying160, rfl, rfl, rfl⟩
instance : Fd Try.prog 160 2 2 17 := ⟨_, _, Try.underlying160, rfl, rfl, rfl⟩
instance : Fd Try.prog 160 3 3 9 := ⟨_, _, Try.underlying160, rfl, rfl, rfl⟩
instance : Inf Try.prog 161 (.agg #[]) 0 0 := Inf.of (by kernel_rfl) rfl
instance : Ta Try.prog 161 true := ⟨Try.isAgg161⟩
instance : Ar Try.prog 161 0 16 := ⟨Try.underlying161⟩
instance : Inf Try.prog 162 (.agg #[]) 0 0 := Inf.of (by kernel_rfl) rfl
instance : Ta Try.prog 162 true := ⟨Try.isAgg162⟩
instance : Pl Try.prog 162 [(0, 0)] := ⟨_, Try.underlying162, fun w => by kernel_rfl⟩
instance : Fd Try.prog 162 0 0 161 := ⟨_, _, Try.underlying162, rfl, rfl, rfl⟩
instance : Inf Try.prog 163 (.agg #[]) 0 0 := Inf.of (by kernel_rfl) rfl
instance : Ta Try.prog 163 true := ⟨Try.isAgg163⟩
instance : Pl Try.prog 163 [(0, 0)] := ⟨_, Try.underlying163, fun w => by kernel_rfl⟩
instance : Fd Try.prog 163 0 0 161 := ⟨_, _, Try.underlying163, rfl, rfl, rfl⟩
instance : Inf Try.prog 164 (.int .u8 0) 1 1 := Inf.of (by kernel_rfl) rfl
instance : Ta Try.prog 164 false := ⟨Try.isAgg164⟩
instance : Ik Try.prog 164 .u8 := ⟨Try.underlying164⟩
instance : Inf Try.prog 165 (.int .u8 0) 1 1 := Inf.of (by kernel_rfl) rfl
instance : Ta Try.prog 165 false := ⟨Try.isAgg165⟩
instance : Ik Try.prog 165 .u8 := ⟨Try.underlying165⟩
instance : Inf Try.prog 166 .nilFunc 1 8 := Inf.of (by kernel_rfl) rfl
instance : Ta Try.prog 166 false := ⟨Try.isAgg166⟩
instance : Inf Try.prog 167 (.pointer none) 1 8 := Inf.of (by kernel_rfl) rfl
instance : Ta Try.prog 167 false := ⟨Try.isAgg167⟩
instance : Pn Try.prog 167 5 := ⟨Try.underlying167⟩
instance : Inf Try.prog 168 (.int .i32 0) 1 4 := Inf.of (by kernel_rfl) rfl
instance : Ta Try.prog 168 false := ⟨Try.isAgg168⟩
instance : Ik Try.prog 168 .i32 := ⟨Try.underlying168⟩
instance : Inf Try.prog 169 (.int .i32 0) 1 4 := Inf.of (by kernel_rfl) rfl
instance : Ta Try.prog 169 false := ⟨Try.isAgg169⟩
instance : Ik Try.prog 169 .i32 := ⟨Try.underlying169⟩
instance : Inf Try.prog 170 (.agg #[(.int .u64 0), (.int .u64 0), (.int .u32 0), (.int .u8 0), (.int .u8 0), (.int .u8 0), (.int .u8 0), .nilFunc, (.pointer none), (.int .i32 0), (.int .i32 0)]) 11 48 := Inf.of (by kernel_rfl) rfl
instance : Ta Try.prog 170 true := ⟨Try.isAgg170⟩
instance : Pl Try.prog 170 [(0, 1), (1, 1), (2, 1), (3, 1), (4, 1), (5, 1), (6, 1), (7, 1), (8, 1), (9, 1), (10, 1)] := ⟨_, Try.underlying170, fun w => by kernel_rfl⟩
instance : Fd Try.prog 170 0 0 12 := ⟨_, _, Try.underlying170, rfl, rfl, rfl⟩
instance : Fd Try.prog 170 1 1 12 := ⟨_, _, Try.underlying170, rfl, rfl, rfl⟩
instance : Fd Try.prog 170 2 2 24 := ⟨_, _, Try.underlying170, rfl, rfl, rfl⟩
instance : Fd Try.prog 170 3 3 164 := ⟨_, _, Try.underlying170, rfl, rfl, rfl⟩
instance : Fd Try.prog 170 4 4 5 := ⟨_, _, Try.underlying170, rfl, rfl, rfl⟩
instance : Fd Try.prog 170 5 5 5 := ⟨_, _, Try.underlying170, rfl, rfl, rfl⟩
instance : Fd Try.prog 170 6 6 165 := ⟨_, _, Try.underlying170, rfl, rfl, rfl⟩
instance : Fd Try.prog 170 7 7 166 := ⟨_, _, Try.underlying170, rfl, rfl, rfl⟩
instance : Fd Try.prog 170 8 8 167 := ⟨_, _, Try.underlying170, rfl, rfl, rfl⟩
instance : Fd Try.prog 170 9 9 168 := ⟨_, _, Try.underlying170, rfl, rfl, rfl⟩
instance : Fd Try.prog 170 10 10 169 := ⟨_, _, Try.underlying170, rfl, rfl, rfl⟩
instance : Inf Try.prog 171 (.agg #[(.int .u64 0), (.int .u64 0), (.int .u32 0), (.int .u8 0), (.int .u8 0), (.int .u8 0), (.int .u8 0), .nilFunc, (.pointer none), (.int .i32 0), (.int .i32 0)]) 11 48 := Inf.of (by kernel_rfl) rfl
instance : Ta Try.prog 171 true := ⟨Try.isAgg171⟩
instance : Pl Try.prog 171 [(0, 1), (1, 1), (2, 1), (3, 1), (4, 1), (5, 1), (6, 1), (7, 1), (8, 1), (9, 1), (10, 1)] := ⟨_, Try.underlying171, fun w => by kernel_rfl⟩
instance : Fd Try.prog 171 0 0 12 := ⟨_, _, Try.underlying171, rfl, rfl, rfl⟩
instance : Fd Try.prog 171 1 1 12 := ⟨_, _, Try.underlying171, rfl, rfl, rfl⟩
instance : Fd Try.prog 171 2 2 24 := ⟨_, _, Try.underlying171, rfl, rfl, rfl⟩
instance : Fd Try.prog 171 3 3 164 := ⟨_, _, Try.underlying171, rfl, rfl, rfl⟩
instance : Fd Try.prog 171 4 4 5 := ⟨_, _, Try.underlying171, rfl, rfl, rfl⟩
instance : Fd Try.prog 171 5 5 5 := ⟨_, _, Try.underlying171, rfl, rfl, rfl⟩
instance : Fd Try.prog 171 6 6 165 := ⟨_, _, Try.underlying171, rfl, rfl, rfl⟩
instance : Fd Try.prog 171 7 7 166 := ⟨_, _, Try.underlying171, rfl, rfl, rfl⟩
instance : Fd Try.prog 171 8 8 167 := ⟨_, _, Try.underlying171, rfl, rfl, rfl⟩
instance : Fd Try.prog 171 9 9 168 := ⟨_, _, Try.underlying171, rfl, rfl, rfl⟩
instance : Fd Try.prog 171 10 10 169 := ⟨_, _, Try.underlying171, rfl, rfl, rfl⟩
instance : Inf Try.prog 172 (.pointer none) 1 8 := Inf.of (by kernel_rfl) rfl
instance : Ta Try.prog 172 false := ⟨Try.isAgg172⟩
instance : Cf Try.prog 2 := ⟨Try.call2⟩
instance : Cf Try.prog 3 := ⟨Try.call3⟩
instance : Cf Try.prog 4 := ⟨Try.call4⟩
instance : Cf Try.prog 5 := ⟨Try.call5⟩
instance : Cf Try.prog 6 := ⟨Try.call6⟩
instance : Cf Try.prog 7 := ⟨Try.call7⟩
instance : Cf Try.prog 8 := ⟨Try.call8⟩
instance : Cf Try.prog 9 := ⟨Try.call9⟩
instance : Cf Try.prog 10 := ⟨Try.call10⟩
instance : Cf Try.prog 11 := ⟨Try.call11⟩
instance : Cf Try.prog 12 := ⟨Try.call12⟩
instance : Cf Try.prog 13 := ⟨Try.call13⟩
instance : Cf Try.prog 14 := ⟨Try.call14⟩
instance : Cf Try.prog 15 := ⟨Try.call15⟩
instance : Cf Try.prog 16 := ⟨Try.call16⟩
instance : Cf Try.prog 17 := ⟨Try.call17⟩
instance : Cf Try.prog 18 := ⟨Try.call18⟩
instance : Cf Try.prog 19 := ⟨Try.call19⟩
instance : Cf Try.prog 20 := ⟨Try.call20⟩
instance : Cf Try.prog 21 := ⟨Try.call21⟩
instance : Cf Try.prog 22 := ⟨Try.call22⟩
instance : Cf Try.prog 23 := ⟨Try.call23⟩
instance : Cf Try.prog 24 := ⟨Try.call24⟩
instance : Cf Try.prog 25 := ⟨Try.call25⟩
instance : Cf Try.prog 26 := ⟨Try.call26⟩
instance : Cf Try.prog 27 := ⟨Try.call27⟩
instance : Cf Try.prog 28 := ⟨Try.call28⟩
instance : Cf Try.prog 29 := ⟨Try.call29⟩
instance : Cf Try.prog 30 := ⟨Try.call30⟩
instance : Cf Try.prog 31 := ⟨Try.call31⟩
instance : Cf Try.prog 32 := ⟨Try.call32⟩
instance : Cf Try.prog 33 := ⟨Try.call33⟩
instance : Cf Try.prog 34 := ⟨Try.call34⟩
instance : Cf Try.prog 35 := ⟨Try.call35⟩
instance : Cf Try.prog 36 := ⟨Try.call36⟩
instance : Cf Try.prog 37 := ⟨Try.call37⟩
instance : Cf Try.prog 38 := ⟨Try.call38⟩
instance : Cf Try.prog 39 := ⟨Try.call39⟩
instance : Cf Try.prog 40 := ⟨Try.call40⟩
instance : Cf Try.prog 41 := ⟨Try.call41⟩
instance : Cf Try.prog 42 := ⟨Try.call42⟩
instance : Cf Try.prog 43 := ⟨Try.call43⟩
instance : Cf Try.prog 44 := ⟨Try.call44⟩
instance : Cf Try.prog 45 := ⟨Try.call45⟩
instance : Cf Try.prog 46 := ⟨Try.call46⟩
instance : Cf Try.prog 47 := ⟨Try.call47⟩
instance : Cf Try.prog 48 := ⟨Try.call48⟩
instance : Cf Try.prog 49 := ⟨Try.call49⟩
instance : Cf Try.prog 50 := ⟨Try.call50⟩
instance : Cf Try.prog 51 := ⟨Try.call51⟩
instance : Cf Try.prog 52 := ⟨Try.call52⟩
instance : Cf Try.prog 53 := ⟨Try.call53⟩
instance : Cf Try.prog 54 := ⟨Try.call54⟩
instance : Cf Try.prog 55 := ⟨Try.call55⟩
instance : Cf Try.prog 56 := ⟨Try.call56⟩
instance : Cf Try.prog 57 := ⟨Try.call57⟩
instance : Cf Try.prog 58 := ⟨Try.call58⟩
instance : Cf Try.prog 64 := ⟨Try.call64⟩
instance : Cf Try.prog 65 := ⟨Try.call65⟩
instance : Cf Try.prog 66 := ⟨Try.call66⟩
instance : Cf Try.prog 67 := ⟨Try.call67⟩
instance : Cf Try.prog 68 := ⟨Try.call68⟩
instance : Cf Try.prog 69 := ⟨Try.call69⟩
instance : Cf Try.prog 70 := ⟨Try.call70⟩
instance : Cf Try.prog 71 := ⟨Try.call71⟩
instance : Cf Try.prog 72 := ⟨Try.call72⟩
instance : Cf Try.prog 73 := ⟨Try.call73⟩
instance : Cf Try.prog 74 := ⟨Try.call74⟩
instance : Cf Try.prog 75 := ⟨Try.call75⟩
instance : Cf Try.prog 76 := ⟨Try.call76⟩
instance : Cf Try.prog 77 := ⟨Try.call77⟩
instance : Cf Try.prog 78 := ⟨Try.call78⟩
instance : Cf Try.prog 79 := ⟨Try.call79⟩
instance : Cf Try.prog 80 := ⟨Try.call80⟩
instance : Cf Try.prog 81 := ⟨Try.call81⟩
instance : Mx Try.prog := ⟨by kernel_rfl⟩
end Go.Proofs.Ytogilblilljpmaa.X
/-
  Small functions: numbers of bytes, rows that are copied, compared, written over: walks of my own.
-/
namespace Go.Proofs.Ytogilblilljpmaa.X
open Go Go.RowKit
set_option linter.unusedVariables false
set_option linter.unusedSimpArgs false
/-- slices.Clone: a row in new memory. -/
theorem xf_clone {W : World} {L : List Blk} (p : Option Addr) (m c : Nat) (xs : List Value) (hx : xs.length = m * 1) (hr : Rs W L p xs) (h1 : xs.all (·.oneCell') = true) (hm : m ≤ 1000000000) : XF Try.prog W 76 #[.slice p m c] L (fun v L' => ∃ q k l, v = .slice q m k ∧ SlO 1 5 (.slice q m k) m xs l ∧ m ≤ k ∧ L' = l ++ L) := by
  refine xf_enter (args := [_]) Try.func76 rfl Try.ntmps76 rfl ?_
  cases p with
  | none =>
    have h0 := hr.none_nil
    subst h0
    have hm0 : m = 0 := by simp at hx; omega
    subst hm0
    focus
      refine xc_seq ?_
      refine xc_region ?_
      refine xo_rd (rd_assign rfl) rfl ?_
      refine xo_nil ?_
      refine xq_seq ?_
      refine xc_seq ?_
      refine xc_seq ?_
      refine xc_region ?_
      refine xo_rd (rd_move rfl) rfl ?_
      refine xo_rd (rd_eqnilS rfl) rfl ?_
      refine xo_nil ?_
      refine xq_seq ?_
      refine xc_condt rfl ?_
      refine xc_seq ?_
      refine xc_region ?_
      refine xo_rd (rd_assign rfl) rfl ?_
      refine xo_nil ?_
      refine xq_seq ?_
      refine xc_ret ?_
      refine xq_then_ret ?_
    exact xq_ret1 (.inl rfl) Try.results76 rfl ⟨none, 0, [], rfl, SlO.nil, Nat.le_refl _, rfl⟩
  | some a =>
    focus
      refine xc_seq ?_
      refine xc_region ?_
      refine xo_rd (rd_assign rfl) rfl ?_
      refine xo_nil ?_
      refine xq_seq ?_
      refine xc_seq ?_
      refine xc_seq ?_
      refine xc_region ?_
      refine xo_rd (rd_move rfl) rfl ?_
      refine xo_rd (rd_eqnilS rfl) rfl ?_
      refine xo_nil ?_
      refine xq_seq ?_
      refine xc_condf rfl ?_
      refine xc_skip ?_
      refine xq_seq ?_
      refine xc_seq ?_
      refine xc_region ?_
      refine xo_ef rfl (ef_slice0 fun r5 => ?_)
      refine xo_rd (rd_move rfl) rfl ?_
    refine xo_ef rfl (ef_append [] L [_] rfl rfl SlO.zero rfl hr.skip hx h1 (by decide) (by omega) (by omega) fun v' l' hO => ?_)
    rw [Nat.zero_add, List.nil_append] at hO
    obtain ⟨q, k, rfl, hO, _⟩ := hO.opn
    focus
      refine xo_rd (rd_assign rfl) rfl ?_
      refine xo_nil ?_
      refine xq_seq ?_
      refine xc_ret ?_
    exact xq_ret1 (.inl rfl) Try.results76 rfl ⟨q, k, l', rfl, hO, hO.cap.2, rfl⟩
/-- easelkit's Own: a row, in new memory. -/
theorem xf_own {W : World} {L : List Blk} (p : Option Addr) (m c : Nat) (xs : List Value) (hx : xs.length = m * 1) (hr : Rs W L p xs) (h1 : xs.all (·.oneCell') = true) (hm : m ≤ 1000000000) : XF Try.prog W 49 #[.slice p m c] L (fun v L' => ∃ q k l, v = .slice q m k ∧ SlO 1 5 (.slice q m k) m xs l ∧ m ≤ k ∧ L' = l ++ L) := by
  refine xf_enter (args := [_]) Try.func49 rfl Try.ntmps49 rfl ?_
  focus
    refine xc_seq ?_
    refine xc_region ?_
    refine xo_rd (rd_assign rfl) rfl ?_
    refine xo_nil ?_
    refine xq_seq ?_
    refine xc_seq ?_
    refine xc_region ?_
    refine xo_rd (rd_assign rfl) rfl ?_
    refine xo_nil ?_
    refine xq_seq ?_
    refine xc_seq ?_
    refine xc_region ?_
    refine xo_rd (rd_move rfl) rfl ?_
    refine xo_rd (rd_move rfl) rfl ?_
  refine xo_ef rfl (ef_append [] L [] rfl rfl SlO.nil rfl hr hx h1 (by decide) (by omega) (by omega) fun v' l' hO => ?_)
  rw [Nat.zero_add, List.nil_append] at hO
  obtain ⟨q, k, rfl, hO, _⟩ := hO.opn
  focus
    refine xo_rd (rd_assign rfl) rfl ?_
    refine xo_nil ?_
    refine xq_seq ?_
    refine xc_ret ?_
  exact xq_ret1 (.inl rfl) Try.results49 rfl ⟨q, k, l', rfl, hO, hO.cap.2, rfl⟩
/-- easelkit's SameBytes (and its like): are two rows the same? -/
theorem xf_samebytes {W : World} {L : List Blk} (p q : Option Addr) (m m' c c' : Nat) (xs ys : List Int) (hx : xs.length = m) (hy : ys.length = m') (hr : Rs W L p (ints .u8 xs)) (hs : Rs W L q (ints .u8 ys)) (hm : m ≤ 1000000000) : XF Try.prog W 27 #[.slice p m c, .slice q m' c'] L (fun v L' => v = .bool (decide (xs = ys)) ∧ L' = L) := by
  refine xf_enter (args := [_, _]) Try.func27 rfl Try.ntmps27 rfl ?_
  focus
    refine xc_seq ?_
    refine xc_region ?_
    refine xo_rd (rd_assign rfl) rfl ?_
    refine xo_nil ?_
    refine xq_seq ?_
    refine xc_seq ?_
    refine xc_seq ?_
    refine xc_region ?_
    refine xo_rd (rd_move rfl) rfl ?_
    refine xo_rd (rd_len rfl) rfl ?_
    refine xo_rd (rd_move rfl) rfl ?_
    refine xo_rd (rd_len rfl) rfl ?_
    refine xo_rd (rd_neq rfl rfl) rfl ?_
    refine xo_nil ?_
    refine xq_seq ?_
    refine xc_ndec rfl (fun h1 => ?_) (fun h1 => ?_)
    refine xc_seq ?_
    refine xc_region ?_
    refine xo_rd (rd_assign rfl) rfl ?_
    refine xo_nil ?_
    refine xq_seq ?_
    refine xc_ret ?_
    refine xq_then_ret ?_
    rotate_left
    refine xc_skip ?_
    refine xq_seq ?_
    refine xc_seq ?_
    refine xc_seq ?_
    refine xc_region ?_
    refine xo_rd (rd_assign rfl) rfl ?_
    refine xo_nil ?_
    refine xq_seq ?_
    refine xc_block ?_
    rotate_left
  · refine xq_ret1 (.inl rfl) Try.results27 rfl ⟨?_, rfl⟩
    rw [decide_eq_false (fun e => by subst e; omega)]
  · have hmm : m' = m := by omega
    subst hmm
    refine xc_loopI (ι := Nat) (fun k => k ≤ m' ∧ xs.take k = ys.take k) (fun k => m' - k) (fun _ => L) (fun k => [(0, .slice p m' c), (1, .slice q m' c'), (5, .int .i64 k)]) 0 ⟨Nat.zero_le _, by simp⟩ rfl (by repeat (first | exact keep_nil | refine keep_cons rfl ?_)) ?_
    rintro k ⟨hk, he⟩
    focus
      refine xc_seq ?_
      refine xc_seq ?_
      refine xc_region ?_
      refine xo_rd (rd_move rfl) rfl ?_
      refine xo_rd (rd_move rfl) rfl ?_
      refine xo_rd (rd_len rfl) rfl ?_
      refine xo_rd (rd_lss rfl rfl) rfl ?_
      refine xo_nil ?_
      refine xq_seq ?_
      refine xc_dec rfl (fun hk1 => ?_) (fun hk1 => ?_)
      refine xc_skip ?_
      refine xq_seq ?_
      refine xc_seq ?_
      refine xc_block ?_
      refine xc_seq ?_
      refine xc_drawML [0, 0, 3, 4, 0, 0, 48, 64, 136] [0, 0, 3, 4, 0, 0, 48, 64, 136] (by kernel_rfl) (by kernel_rfl) (by kernel_rfl) ?_
      refine xm_take 0 (m' := 1) rfl (by kernel_rfl) (by first | exact Sb.refl | exact Sb.nil | (repeat (first | exact Sb.nil | exact Sb.refl | exact Sb.app0 | apply Sb.keep | apply Sb.keepApp | apply Sb.cons | apply Sb.app))) (rd_move rfl) rfl (by kernel_rfl) ?_
      refine xm_take 1 (m' := 3) rfl (by kernel_rfl) (by first | exact Sb.refl | exact Sb.nil | (repeat (first | exact Sb.nil | exact Sb.refl | exact Sb.app0 | apply Sb.keep | apply Sb.keepApp | apply Sb.cons | apply Sb.app))) (rd_move rfl) rfl (by kernel_rfl) ?_
      refine xm_take 4 (m' := 19) rfl (by kernel_rfl) (by first | exact Sb.refl | exact Sb.nil | (repeat (first | exact Sb.nil | exact Sb.refl | exact Sb.app0 | apply Sb.keep | apply Sb.keepApp | apply Sb.cons | apply Sb.app))) (rd_move rfl) rfl (by kernel_rfl) ?_
      refine xm_take 5 (m' := 51) rfl (by kernel_rfl) (by first | exact Sb.refl | exact Sb.nil | (repeat (first | exact Sb.nil | exact Sb.refl | exact Sb.app0 | apply Sb.keep | apply Sb.keepApp | apply Sb.cons | apply Sb.app))) (rd_move rfl) rfl (by kernel_rfl) ?_
      rotate_left
      refine xc_exit ?_
      refine xq_then_exit ?_
      refine xq_then_exit ?_
      refine xq_block_hit ?_
      refine xq_seq ?_
      refine xc_seq ?_
      refine xc_region ?_
      refine xo_rd (rd_assign rfl) rfl ?_
      refine xo_nil ?_
      refine xq_seq ?_
      refine xc_ret ?_
      rotate_left
    · obtain ⟨b, o, hp, hc⟩ := hr.int (i := k) (by omega)
      obtain ⟨b', o', hp', hc'⟩ := hs.int (i := k) (by omega)
      subst hp hp'
      focus
        refine xm_take 2 (m' := 55) rfl (by kernel_rfl) (by first | exact Sb.refl | exact Sb.nil | (repeat (first | exact Sb.nil | exact Sb.refl | exact Sb.app0 | apply Sb.keep | apply Sb.keepApp | apply Sb.cons | apply Sb.app))) (rd_indexAddr rfl rfl (by omega) (by omega)) rfl (by kernel_rfl) ?_
        refine xm_take 3 (m' := 63) rfl (by kernel_rfl) (by first | exact Sb.refl | exact Sb.nil | (repeat (first | exact Sb.nil | exact Sb.refl | exact Sb.app0 | apply Sb.keep | apply Sb.keepApp | apply Sb.cons | apply Sb.app))) (rd_load1 rfl hc) rfl (by kernel_rfl) ?_
        refine xm_take 6 (m' := 127) rfl (by kernel_rfl) (by first | exact Sb.refl | exact Sb.nil | (repeat (first | exact Sb.nil | exact Sb.refl | exact Sb.app0 | apply Sb.keep | apply Sb.keepApp | apply Sb.cons | apply Sb.app))) (rd_indexAddr rfl rfl (by omega) (by omega)) rfl (by kernel_rfl) ?_
        refine xm_take 7 (m' := 255) rfl (by kernel_rfl) (by first | exact Sb.refl | exact Sb.nil | (repeat (first | exact Sb.nil | exact Sb.refl | exact Sb.app0 | apply Sb.keep | apply Sb.keepApp | apply Sb.cons | apply Sb.app))) (rd_load1 rfl hc') rfl (by kernel_rfl) ?_
        refine xm_take 8 (m' := 511) rfl (by kernel_rfl) (by first | exact Sb.refl | exact Sb.nil | (repeat (first | exact Sb.nil | exact Sb.refl | exact Sb.app0 | apply Sb.keep | apply Sb.keepApp | apply Sb.cons | apply Sb.app))) (rd_neq rfl rfl) rfl (by kernel_rfl) ?_
        refine xm_done (by kernel_rfl) ?_
        refine xq_seq ?_
        refine xc_ndec rfl (fun hq1 => ?_) (fun hq1 => ?_)
        refine xc_seq ?_
        refine xc_region ?_
        refine xo_rd (rd_assign rfl) rfl ?_
        refine xo_nil ?_
        refine xq_seq ?_
        refine xc_ret ?_
        refine xq_block_ret ?_
        refine xq_then_ret ?_
        refine xq_then_ret ?_
        refine xq_block_ret ?_
        refine xq_then_ret ?_
        rotate_left
        refine xc_skip ?_
        refine xq_block ?_
        refine xq_seq ?_
        refine xc_region ?_
        refine xo_rd (rd_move rfl) rfl ?_
        refine xo_rd (rd_addn rfl rfl (by omega) (by omega)) rfl ?_
        refine xo_rd (rd_assign rfl) rfl ?_
        refine xo_nil ?_
        rotate_left
      · refine xq_ret1 (.inl rfl) Try.results27 rfl ⟨?_, rfl⟩
        rw [decide_eq_false (fun e => by subst e; exact hq1 rfl)]
      · refine xq_roundI (k + 1) ⟨by omega, ?_⟩ (by omega) rfl (by repeat (first | exact keep_nil | refine keep_cons rfl ?_))
        rw [List.take_add_one, List.take_add_one, he, List.getElem?_eq_getElem (by omega), List.getElem?_eq_getElem (by omega), hq1]
    · have hkm : k = m' := by omega
      subst hkm
      refine xq_ret1 (.inl rfl) Try.results27 rfl ⟨?_, rfl⟩
      rw [List.take_of_length_le (by omega), List.take_of_length_le (by omega)] at he
      rw [decide_eq_true he]
theorem xf_samebytesT {W : World} {L : List Blk} (p q : Option Addr) (m m' c c' : Nat) (xs ys : List Int) (he : xs = ys) (hx : xs.length = m) (hy : ys.length = m') (hr : Rs W L p (ints .u8 xs)) (hs : Rs W L q (ints .u8 ys)) (hm : m ≤ 1000000000) : XF Try.prog W 27 #[.slice p m c, .slice q m' c'] L (fun v L' => v = .bool true ∧ L' = L) :=
  (xf_samebytes p q m m' c c' xs ys hx hy hr hs hm).mono fun v L' h => ⟨h.1.trans (by rw [decide_eq_true he]), h.2⟩
theorem vl_snoc (l : List Int) (c : Int) : vl (l ++ [c]) = vl l * 256 + c := by unfold vl; rw [List.foldl_append]; rfl
theorem vl_take (l : List Int) (k : Nat) (h : k < l.length) : vl (l.take (k + 1)) = vl (l.take k) * 256 + l[k] := by
  rw [List.take_add_one, List.getElem?_eq_getElem h]
  exact vl_snoc _ _
theorem vl_bd (l : List Int) (hb : ∀ x, x ∈ l → By x) : ∀ k, k ≤ l.length → 0 ≤ vl (l.take k) ∧ vl (l.take k) < 256 ^ k
  | 0, _ => ⟨by simp [vl], by simp [vl]⟩
  | k + 1, h => by
    obtain ⟨h1, h2⟩ := vl_bd l hb k (by omega)
    have hk := hb l[k] (List.getElem_mem _)
    unfold By at hk
    rw [vl_take l k h, Int.pow_succ]
    omega
theorem pow_bd (k : Nat) (h : k ≤ 3) : (256 : Int) ^ k ≤ 16777216 := by
  have : k = 0 ∨ k = 1 ∨ k = 2 ∨ k = 3 := by omega
  rcases this with rfl | rfl | rfl | rfl <;> decide
theorem vl_u4 (l : List Int) (hb : ∀ x, x ∈ l → By x) (h : l.length ≤ 4) : U4 (vl l) := by
  have h1 := vl_bd l hb l.length (Nat.le_refl _)
  rw [List.take_length] at h1
  have : (256 : Int) ^ l.length ≤ 4294967296 := by
    have : l.length = 0 ∨ l.length = 1 ∨ l.length = 2 ∨ l.length = 3 ∨ l.length = 4 := by omega
    rcases this with h | h | h | h | h <;> rw [h] <;> decide
  unfold U4; omega
theorem strOfNums_inj {a b : List Int} (ha : ∀ x, x ∈ a → By x) (hb : ∀ x, x ∈ b → By x) : strOfNums a = strOfNums b ↔ a = b := by
  refine ⟨fun h => ?_, fun h => by rw [h]⟩
  have h1 : a.map (fun n => UInt8.ofNat n.toNat) = b.map (fun n => UInt8.ofNat n.toNat) := by
    rw [← strOfNums_data, ← strOfNums_data, h]
  have key : ∀ (a b : List Int), (∀ x, x ∈ a → By x) → (∀ x, x ∈ b → By x) → a.map (fun n => UInt8.ofNat n.toNat) = b.map (fun n => UInt8.ofNat n.toNat) → a = b := by
    intro a
    induction a with
    | nil => intro b _ _ h; cases b with
      | nil => rfl
      | cons y r => cases h
    | cons x r ih => intro b ha hb h; cases b with
      | nil => cases h
      | cons y s =>
        simp only [List.map_cons, List.cons.injEq] at h
        have hx := ha x (List.mem_cons_self ..)
        have hy := hb y (List.mem_cons_self ..)
        unfold By at hx hy
        have e1 : x = y := by
          have := congrArg UInt8.toNat h.1
          simp only [UInt8.toNat_ofNat'] at this
          omega
        rw [e1, ih s (fun z hz => ha z (List.mem_cons_of_mem _ hz)) (fun z hz => hb z (List.mem_cons_of_mem _ hz)) h.2]
  exact key a b ha hb h1
end Go.Proofs.Ytogilblilljpmaa.X
/-
  Packets of RTCP: first kinds, words, right, same, copied: walks of my own.
-/
namespace Go.Proofs.Ytogilblilljpmaa.X
open Go Go.RowKit
set_option linter.unusedVariables false
set_option linter.unusedSimpArgs false
theorem xf_isFirst {W : World} {L : List Blk} (k : Int) (b : Bool) (hb : isFirst k = b) : XF Try.prog W 69 #[.int .u8 k] L (fun v L' => v = .bool b ∧ L' = L) := by
  subst hb
  refine xf_enter (args := [_]) Try.func69 rfl Try.ntmps69 rfl ?_
  focus
    refine xc_seq ?_
    refine xc_region ?_
    refine xo_rd (rd_assign rfl) rfl ?_
    refine xo_nil ?_
    refine xq_seq ?_
    refine xc_seq ?_
    refine xc_region ?_
    refine xo_rd (rd_move rfl) rfl ?_
    refine xo_rd (rd_eql rfl rfl) rfl ?_
    refine xo_rd (rd_move rfl) rfl ?_
    refine xo_dec 5 rfl (fun hw1 => ?_) (fun hw1 => ?_)
    refine xo_gskip rfl rfl rfl rfl ?_
    refine xo_gskip rfl rfl rfl rfl ?_
    refine xo_rd (rd_pickt rfl rfl) rfl ?_
    refine xo_rd (rd_assign rfl) rfl ?_
    refine xo_nil ?_
    refine xq_seq ?_
    refine xc_ret ?_
    rotate_left
    refine xo_grd rfl rfl (rd_move rfl) rfl ?_
    refine xo_grd rfl rfl (rd_eql rfl rfl) rfl ?_
    refine xo_rd (rd_pickf rfl rfl) rfl ?_
    refine xo_rd (rd_assign rfl) rfl ?_
    refine xo_nil ?_
    refine xq_seq ?_
    refine xc_ret ?_
    rotate_left
  all_goals refine xq_ret1 (.inl rfl) Try.results69 rfl ⟨?_, rfl⟩
  · exact congrArg Value.bool (by unfold isFirst; exact (decide_eq_true (by omega)).symm)
  · exact congrArg Value.bool (by unfold isFirst; rw [decide_eq_decide]; omega)
theorem xf_words {W : World} {L : List Blk} (q : Pc) (p : Option Addr) (c : Nat) (b1 : q.bd.length ≤ 1000000000) (b2 : By q.pd) : XF Try.prog W 81 #[.agg (q.enc (.slice p q.bd.length c)).toArray] L (fun v L' => v = .int .i64 (((q.bd.length : Int) + q.pd) / 4) ∧ L' = L) := by
  refine xf_enter (args := [_]) Try.func81 rfl Try.ntmps81 rfl ?_
  obtain ⟨ct, kd, bd, pd⟩ := q
  dsimp only [By] at b1 b2
  dsimp only [Pc.enc]
  focus
    refine xc_seq ?_
    refine xc_region ?_
    refine xo_ef rfl (ef_box rfl fun r1 => ?_)
    refine xo_rd (rd_assign rfl) rfl ?_
    refine xo_nil ?_
    refine xq_seq ?_
    refine xc_seq ?_
    refine xc_region ?_
    refine xo_rd (rd_fieldAddr rfl) rfl ?_
    refine xo_rd (rd_load1 rfl (Cl.o0 rfl)) rfl ?_
    refine xo_rd (rd_len rfl) rfl ?_
    refine xo_rd (rd_fieldAddr rfl) rfl ?_
    refine xo_rd (rd_load1 rfl (Cl.o0 rfl)) rfl ?_
    refine xo_rd (rd_convn rfl (by omega) (by omega)) rfl ?_
    refine xo_rd (rd_addn rfl rfl (by omega) (by omega)) rfl ?_
    refine xo_rd (rd_quon rfl rfl (by omega) (by omega) (by omega) (by omega)) rfl ?_
    refine xo_rd (rd_assign rfl) rfl ?_
    refine xo_nil ?_
    refine xq_seq ?_
    refine xc_ret ?_
    exact xq_tail (xq_ret1 (.inl rfl) Try.results81 rfl (⟨rfl, rfl⟩))
theorem xf_right {W : World} {L : List Blk} (q : Pc) (b : Bool) (hb : decide q.Right = b) (p : Option Addr) (c : Nat) (b1 : q.bd.length ≤ 1000000000) (b0 : By q.ct) (b2 : By q.pd) : XF Try.prog W 67 #[.agg (q.enc (.slice p q.bd.length c)).toArray] L (fun v L' => v = .bool b ∧ L' = L) := by
  subst hb
  refine xf_enter (args := [_]) Try.func67 rfl Try.ntmps67 rfl ?_
  obtain ⟨ct, kd, bd, pd⟩ := q
  dsimp only [By] at b0 b1 b2
  dsimp only [Pc.enc]
  focus
    refine xc_seq ?_
    refine xc_region ?_
    refine xo_ef rfl (ef_box rfl fun r1 => ?_)
    refine xo_rd (rd_assign rfl) rfl ?_
    refine xo_nil ?_
    refine xq_seq ?_
    refine xc_seq ?_
    refine xc_region ?_
    refine xo_rd (rd_fieldAddr rfl) rfl ?_
    refine xo_rd (rd_load1 rfl (Cl.o0 rfl)) rfl ?_
    refine xo_rd (rd_leq rfl rfl) rfl ?_
    refine xo_rd (rd_move rfl) rfl ?_
    refine xo_dec 6 rfl (fun hw1 => ?_) (fun hw1 => ?_)
    refine xo_grd rfl rfl (rd_fieldAddr rfl) rfl ?_
    refine xo_grd rfl rfl (rd_load1 rfl (Cl.o0 rfl)) rfl ?_
    refine xo_grd rfl rfl (rd_len rfl) rfl ?_
    refine xo_grd rfl rfl (rd_remn rfl rfl (by omega) (by omega)) rfl ?_
    refine xo_grd rfl rfl (rd_eql rfl rfl) rfl ?_
    refine xo_rd (rd_pickt rfl rfl) rfl ?_
    refine xo_rd (rd_move rfl) rfl ?_
    refine xo_dec 13 rfl (fun hw2 => ?_) (fun hw2 => ?_)
    refine xo_grd rfl rfl (rd_fieldAddr rfl) rfl ?_
    refine xo_grd rfl rfl (rd_load1 rfl (Cl.o0 rfl)) rfl ?_
    refine xo_grd rfl rfl (rd_remn rfl rfl (by omega) (by omega)) rfl ?_
    refine xo_grd rfl rfl (rd_eql rfl rfl) rfl ?_
    refine xo_rd (rd_pickt rfl rfl) rfl ?_
    refine xo_rd (rd_move rfl) rfl ?_
    refine xo_dec 19 rfl (fun hw3 => ?_) (fun hw3 => ?_)
    refine xo_grd rfl rfl (rd_loadB rfl Kn.o0 (by rfl)) rfl ?_
    refine xo_gef rfl rfl rfl (ef_call rfl (XF.mono (xf_words ⟨ct, kd, bd, pd⟩ p c b1 b2) ?_))
    rintro v L' ⟨rfl, rfl⟩
    refine xo_grd rfl rfl (rd_leq rfl rfl) rfl ?_
    refine xo_rd (rd_pickt rfl rfl) rfl ?_
    refine xo_rd (rd_assign rfl) rfl ?_
    refine xo_nil ?_
    refine xq_seq ?_
    refine xc_ret ?_
    rotate_left
    refine xo_gskip rfl rfl rfl rfl ?_
    refine xo_gskip rfl rfl rfl rfl ?_
    refine xo_gskip rfl rfl rfl rfl ?_
    refine xo_rd (rd_pickf rfl rfl) rfl ?_
    refine xo_rd (rd_assign rfl) rfl ?_
    refine xo_nil ?_
    refine xq_seq ?_
    refine xc_ret ?_
    rotate_left
    refine xo_gskip rfl rfl rfl rfl ?_
    refine xo_gskip rfl rfl rfl rfl ?_
    refine xo_gskip rfl rfl rfl rfl ?_
    refine xo_gskip rfl rfl rfl rfl ?_
    refine xo_rd (rd_pickf rfl rfl) rfl ?_
    refine xo_rd (rd_move rfl) rfl ?_
    refine xo_gskip rfl rfl rfl rfl ?_
    refine xo_gskip rfl rfl rfl rfl ?_
    refine xo_gskip rfl rfl rfl rfl ?_
    refine xo_rd (rd_pickf rfl rfl) rfl ?_
    refine xo_rd (rd_assign rfl) rfl ?_
    refine xo_nil ?_
    refine xq_seq ?_
    refine xc_ret ?_
    rotate_left
    refine xo_gskip rfl rfl rfl rfl ?_
    refine xo_gskip rfl rfl rfl rfl ?_
    refine xo_gskip rfl rfl rfl rfl ?_
    refine xo_gskip rfl rfl rfl rfl ?_
    refine xo_gskip rfl rfl rfl rfl ?_
    refine xo_rd (rd_pickf rfl rfl) rfl ?_
    refine xo_rd (rd_move rfl) rfl ?_
    refine xo_gskip rfl rfl rfl rfl ?_
    refine xo_gskip rfl rfl rfl rfl ?_
    refine xo_gskip rfl rfl rfl rfl ?_
    refine xo_gskip rfl rfl rfl rfl ?_
    refine xo_rd (rd_pickf rfl rfl) rfl ?_
    refine xo_rd (rd_move rfl) rfl ?_
    refine xo_gskip rfl rfl rfl rfl ?_
    refine xo_gskip rfl rfl rfl rfl ?_
    refine xo_gskip rfl rfl rfl rfl ?_
    refine xo_rd (rd_pickf rfl rfl) rfl ?_
    refine xo_rd (rd_assign rfl) rfl ?_
    refine xo_nil ?_
    refine xq_seq ?_
    refine xc_ret ?_
    rotate_left
  all_goals refine xq_sub (L' := L) (List.sublist_cons_self _ _) (xq_ret1 (.inl rfl) Try.results67 rfl ⟨?_, rfl⟩)
  all_goals refine congrArg Value.bool ?_
  all_goals first
    | exact (decide_eq_false (by unfold Pc.Right; dsimp only; omega)).symm
    | exact (decide_eq_true (by unfold Pc.Right; dsimp only; omega)).symm
    | (rw [decide_eq_decide]; unfold Pc.Right; dsimp only; omega)
theorem xf_rright {W : World} {L : List Blk} (q : Pc) (b : Bool) (hb : decide q.Right = b) (p : Option Addr) (c : Nat) (b1 : q.bd.length ≤ 1000000000) (b0 : By q.ct) (b2 : By q.pd) : XF Try.prog W 74 #[.agg (q.enc (.slice p q.bd.length c)).toArray] L (fun v L' => v = .bool b ∧ L' = L) := by
  subst hb
  refine xf_enter (args := [_]) Try.func74 rfl Try.ntmps74 rfl ?_
  obtain ⟨ct, kd, bd, pd⟩ := q
  dsimp only [By] at b0 b1 b2
  dsimp only [Pc.enc]
  focus
    refine xc_seq ?_
    refine xc_region ?_
    refine xo_ef rfl (ef_box rfl fun r1 => ?_)
    refine xo_rd (rd_assign rfl) rfl ?_
    refine xo_nil ?_
    refine xq_seq ?_
    refine xc_seq ?_
    refine xc_region ?_
    refine xo_rd (rd_fieldAddr rfl) rfl ?_
    refine xo_rd (rd_load1 rfl (Cl.o0 rfl)) rfl ?_
    refine xo_rd (rd_leq rfl rfl) rfl ?_
    refine xo_rd (rd_move rfl) rfl ?_
    refine xo_dec 6 rfl (fun hw1 => ?_) (fun hw1 => ?_)
    refine xo_grd rfl rfl (rd_fieldAddr rfl) rfl ?_
    refine xo_grd rfl rfl (rd_load1 rfl (Cl.o0 rfl)) rfl ?_
    refine xo_grd rfl rfl (rd_len rfl) rfl ?_
    refine xo_grd rfl rfl (rd_remn rfl rfl (by omega) (by omega)) rfl ?_
    refine xo_grd rfl rfl (rd_eql rfl rfl) rfl ?_
    refine xo_rd (rd_pickt rfl rfl) rfl ?_
    refine xo_rd (rd_move rfl) rfl ?_
    refine xo_dec 13 rfl (fun hw2 => ?_) (fun hw2 => ?_)
    refine xo_grd rfl rfl (rd_fieldAddr rfl) rfl ?_
    refine xo_grd rfl rfl (rd_load1 rfl (Cl.o0 rfl)) rfl ?_
    refine xo_grd rfl rfl (rd_remn rfl rfl (by omega) (by omega)) rfl ?_
    refine xo_grd rfl rfl (rd_eql rfl rfl) rfl ?_
    refine xo_rd (rd_pickt rfl rfl) rfl ?_
    refine xo_rd (rd_move rfl) rfl ?_
    refine xo_dec 19 rfl (fun hw3 => ?_) (fun hw3 => ?_)
    refine xo_grd rfl rfl (rd_fieldAddr rfl) rfl ?_
    refine xo_grd rfl rfl (rd_load1 rfl (Cl.o0 rfl)) rfl ?_
    refine xo_grd rfl rfl (rd_len rfl) rfl ?_
    refine xo_grd rfl rfl (rd_fieldAddr rfl) rfl ?_
    refine xo_grd rfl rfl (rd_load1 rfl (Cl.o0 rfl)) rfl ?_
    refine xo_grd rfl rfl (rd_convn rfl (by omega) (by omega)) rfl ?_
    refine xo_grd rfl rfl (rd_addn rfl rfl (by omega) (by omega)) rfl ?_
    refine xo_grd rfl rfl (rd_leq rfl rfl) rfl ?_
    refine xo_rd (rd_pickt rfl rfl) rfl ?_
    refine xo_rd (rd_assign rfl) rfl ?_
    refine xo_nil ?_
    refine xq_seq ?_
    refine xc_ret ?_
    rotate_left
    refine xo_gskip rfl rfl rfl rfl ?_
    refine xo_gskip rfl rfl rfl rfl ?_
    refine xo_gskip rfl rfl rfl rfl ?_
    refine xo_gskip rfl rfl rfl rfl ?_
    refine xo_gskip rfl rfl rfl rfl ?_
    refine xo_gskip rfl rfl rfl rfl ?_
    refine xo_gskip rfl rfl rfl rfl ?_
    refine xo_gskip rfl rfl rfl rfl ?_
    refine xo_rd (rd_pickf rfl rfl) rfl ?_
    refine xo_rd (rd_assign rfl) rfl ?_
    refine xo_nil ?_
    refine xq_seq ?_
    refine xc_ret ?_
    rotate_left
    refine xo_gskip rfl rfl rfl rfl ?_
    refine xo_gskip rfl rfl rfl rfl ?_
    refine xo_gskip rfl rfl rfl rfl ?_
    refine xo_gskip rfl rfl rfl rfl ?_
    refine xo_rd (rd_pickf rfl rfl) rfl ?_
    refine xo_rd (rd_move rfl) rfl ?_
    refine xo_gskip rfl rfl rfl rfl ?_
    refine xo_gskip rfl rfl rfl rfl ?_
    refine xo_gskip rfl rfl rfl rfl ?_
    refine xo_gskip rfl rfl rfl rfl ?_
    refine xo_gskip rfl rfl rfl rfl ?_
    refine xo_gskip rfl rfl rfl rfl ?_
    refine xo_gskip rfl rfl rfl rfl ?_
    refine xo_gskip rfl rfl rfl rfl ?_
    refine xo_rd (rd_pickf rfl rfl) rfl ?_
    refine xo_rd (rd_assign rfl) rfl ?_
    refine xo_nil ?_
    refine xq_seq ?_
    refine xc_ret ?_
    rotate_left
    refine xo_gskip rfl rfl rfl rfl ?_
    refine xo_gskip rfl rfl rfl rfl ?_
    refine xo_gskip rfl rfl rfl rfl ?_
    refine xo_gskip rfl rfl rfl rfl ?_
    refine xo_gskip rfl rfl rfl rfl ?_
    refine xo_rd (rd_pickf rfl rfl) rfl ?_
    refine xo_rd (rd_move rfl) rfl ?_
    refine xo_gskip rfl rfl rfl rfl ?_
    refine xo_gskip rfl rfl rfl rfl ?_
    refine xo_gskip rfl rfl rfl rfl ?_
    refine xo_gskip rfl rfl rfl rfl ?_
    refine xo_rd (rd_pickf rfl rfl) rfl ?_
    refine xo_rd (rd_move rfl) rfl ?_
    refine xo_gskip rfl rfl rfl rfl ?_
    refine xo_gskip rfl rfl rfl rfl ?_
    refine xo_gskip rfl rfl rfl rfl ?_
    refine xo_gskip rfl rfl rfl rfl ?_
    refine xo_gskip rfl rfl rfl rfl ?_
    refine xo_gskip rfl rfl rfl rfl ?_
    refine xo_gskip rfl rfl rfl rfl ?_
    refine xo_gskip rfl rfl rfl rfl ?_
    refine xo_rd (rd_pickf rfl rfl) rfl ?_
    refine xo_rd (rd_assign rfl) rfl ?_
    refine xo_nil ?_
    refine xq_seq ?_
    refine xc_ret ?_
    rotate_left
  all_goals refine xq_sub (L' := L) (List.sublist_cons_self _ _) (xq_ret1 (.inl rfl) Try.results74 rfl ⟨?_, rfl⟩)
  all_goals refine congrArg Value.bool ?_
  all_goals first
    | exact (decide_eq_false (by unfold Pc.Right; dsimp only; omega)).symm
    | exact (decide_eq_true (by unfold Pc.Right; dsimp only; omega)).symm
    | (rw [decide_eq_decide]; unfold Pc.Right; dsimp only; omega)
end Go.Proofs.Ytogilblilljpmaa.X
/-
  A packet is taken off bytes: a walk of my own.
-/
namespace Go.Proofs.Ytogilblilljpmaa.X
open Go Go.RowKit
set_option linter.unusedVariables false
set_option linter.unusedSimpArgs false
theorem By.take {l : List Int} (h : ∀ x, x ∈ l → By x) (k : Nat) : ∀ x, x ∈ l.take k → By x := fun x hx => h x (List.mem_of_mem_take hx)
theorem By.drop {l : List Int} (h : ∀ x, x ∈ l → By x) (k : Nat) : ∀ x, x ∈ l.drop k → By x := fun x hx => h x (List.mem_of_mem_drop hx)
theorem Rs.ints_take {W : World} {L : List Blk} {p : Option Addr} {k : IntKind} {xs : List Int} (h : Rs W L p (ints k xs)) (i : Nat) : Rs W L p (ints k (xs.take i)) := by rw [X.ints_take]; exact h.take i
theorem getD_get {l : List Int} {i : Nat} (h : i < l.length) : l.getD i 0 = l[i] := by simp [List.getD_eq_getElem?_getD, h]
theorem ints_snoc (k : IntKind) (l : List Int) (x : Int) : ints k (l ++ [x]) = ints k l ++ [.int k x] := by simp [ints]
theorem perm_end4 (a b c d : List Blk) : (a ++ (b ++ (c ++ d))).Perm (d ++ (a ++ (b ++ c))) := (by classical exact List.perm_iff_count.2 fun a => by simp only [List.append_eq, List.count_append, List.count_cons, List.count_nil, List.cons_append, List.nil_append, List.flatMap_append, List.flatMap_cons, List.flatMap_nil, List.append_nil]; omega)
theorem takeP_short {b : List Int} {f : Bool} (h : b.length < 4) : takeP b f = (10, .zero, []) := by
  rcases b with _ | ⟨a, _ | ⟨b, _ | ⟨c, _ | ⟨d, t⟩⟩⟩⟩
  · rfl
  · rfl
  · rfl
  · rfl
  · simp at h; omega
theorem and8_31 (x : Int) (h0 : 0 ≤ x) (h1 : x ≤ 255) : bits .and .u8 x 31 = x % 32 := u8_ind (p := fun x => bits .and .u8 x 31 = x % 32) (by decide +kernel) x h0 h1
/-- What take answers. -/
def TkM (W : World) (L : List Blk) (p : Option Addr) (bs : List Int) (z : Int × Pc × List Int) (v : Value) (L' : List Blk) : Prop :=
  ∃ p1 c1 l p2 c2, v = .tuple #[.agg (z.2.1.enc (.slice p1 z.2.1.bd.length c1)).toArray, .slice p2 z.2.2.length c2, .int .i64 z.1] ∧ SlO 1 5 (.slice p1 z.2.1.bd.length c1) z.2.1.bd.length (ints .u8 z.2.1.bd) l ∧ (∀ L0, Rs W L0 p (ints .u8 bs) → Rs W L0 p2 (ints .u8 z.2.2)) ∧ z.2.2.length ≤ c2 ∧ L' = l ++ L
theorem TkM.err {W : World} {L : List Blk} {p : Option Addr} {bs : List Int} (e : Int) : TkM W L p bs (e, .zero, []) (.tuple #[.agg (Pc.zero.enc (.slice none 0 0)).toArray, .slice none 0 0, .int .i64 e]) L :=
  ⟨none, 0, [], none, 0, rfl, SlO.nil, fun _ _ => Rs.nil, Nat.le_refl _, rfl⟩
set_option maxHeartbeats 4000000 in
theorem xf_take {W : World} {L : List Blk} (p : Option Addr) (m c : Nat) (bs : List Int) (f : Bool) (hx : bs.length = m) (hr : Rs W L p (ints .u8 bs)) (hb : ∀ x, x ∈ bs → By x) (hc : m ≤ c) (hm : m ≤ 1000000000) :
    XF Try.prog W 54 #[.slice p m c, .bool f] L (TkM W L p bs (takeP bs f)) := by
  refine xf_enter (args := [_, _]) Try.func54 rfl Try.ntmps54 rfl ?_
  by_cases h4 : m < 4
  · rw [takeP_short (by omega)]
    focus
      refine xc_seq ?_
      refine xc_region ?_
      refine xo_ef rfl (ef_alloc fun r4 => ?_)
      refine xo_rd (rd_assign rfl) rfl ?_
      refine xo_rd (rd_assign rfl) rfl ?_
      refine xo_nil ?_
      refine xq_seq ?_
      refine xc_seq ?_
      refine xc_block ?_
      refine xc_seq ?_
      refine xc_region ?_
      refine xo_rd (rd_move rfl) rfl ?_
      refine xo_rd (rd_len rfl) rfl ?_
      refine xo_rd (rd_lss rfl rfl) rfl ?_
      refine xo_rd (rd_assign rfl) rfl ?_
      refine xo_nil ?_
      refine xq_seq ?_
      refine xc_dec rfl (fun h1 => ?_) (fun h1 => (by exfalso; omega))
      refine xc_seq ?_
      refine xc_region ?_
      refine xo_rd (rd_build rfl rfl rfl) rfl ?_
      refine xo_ef rfl (ef_storeB [] _ rfl rfl (by first | rfl | assumption) rfl rfl rfl ?_)
      refine xo_rd (rd_assign rfl) rfl ?_
      refine xo_rd (rd_assign rfl) rfl ?_
      refine xo_nil ?_
      refine xq_seq ?_
      refine xc_ret ?_
      refine xq_block_ret ?_
      refine xq_then_ret ?_
    exact xq_retB3 (.inl rfl) Try.results54 rfl rfl rfl Kn.o0 rfl (List.sublist_cons_self _ _) (TkM.err 10)
  iterate 4
    (rcases bs with _ | ⟨_, bs⟩
     · exact absurd (by simp at hx; omega) h4)
  rename_i b0 b1 b2 b3
  obtain ⟨b, o, rfl, hc0⟩ := hr.int (i := 0) (by simp)
  have hcell : ∀ i z, (b0 :: b1 :: b2 :: b3 :: bs)[i]? = some z → ∀ L', (∀ z, z ∈ L → z ∈ L') → Cl W L' b (o + i * 1) (.int .u8 z) := fun i z hz L' hL' => by
    obtain ⟨hi, rfl⟩ := List.getElem?_eq_some_iff.1 hz
    obtain ⟨b', o', he, hci⟩ := (hr.mono hL').int hi
    simp only [Option.some.injEq, Addr.mk.injEq, and_true] at he
    obtain ⟨rfl, rfl⟩ := he
    exact hci
  have g0 := hb b0 (by simp); have g1 := hb b1 (by simp); have g2 := hb b2 (by simp); have g3 := hb b3 (by simp)
  unfold By at g0 g1 g2 g3
  obtain ⟨k, hk⟩ : ∃ k : Nat, k = (4 * vl [b2, b3]).toNat := ⟨_, rfl⟩
  have hkv : (k : Int) = 4 * (b2 * 256 + b3) := by rw [hk]; simp only [vl, List.foldl]; omega
  show XC Try.prog W _ _ (bodyPost _ _ (XP W (TkM W L _ _ (takeT b0 b1 (4 * vl [b2, b3]).toNat bs f)))) L _
  rw [← hk]
  obtain ⟨fb, hfb⟩ : ∃ fb, isFirst b1 = fb := ⟨_, rfl⟩
  have hmb : bs.length + 4 = m := by simpa using hx
  have hkb : k ≤ 262140 := by omega
  focus
    refine xc_seq ?_
    refine xc_region ?_
    refine xo_ef rfl (ef_alloc fun r4 => ?_)
    refine xo_rd (rd_assign rfl) rfl ?_
    refine xo_rd (rd_assign rfl) rfl ?_
    refine xo_nil ?_
    refine xq_seq ?_
  refine xc_join (ι := Unit) (fun _ => b0 / 64 = 2 ∧ ¬ (f = true ∧ isFirst b1 = false)) (fun _ => (r4, .cells #[.int .u8 0, .int .u8 0, .slice none 0 0, .int .u8 0] 81 (0, 0)) :: L) (fun _ => [(0, .slice (some ⟨b, o, none⟩) m c), (4, .pointer (some ⟨r4, 0, none⟩))]) ?_ ?_
  · focus
      refine xc_block ?_
      refine xc_seq ?_
      refine xc_region ?_
      refine xo_rd (rd_move rfl) rfl ?_
      refine xo_rd (rd_len rfl) rfl ?_
      refine xo_rd (rd_lss rfl rfl) rfl ?_
      refine xo_rd (rd_assign rfl) rfl ?_
      refine xo_nil ?_
      refine xq_seq ?_
      refine xc_dec rfl (fun hq1 => (by exfalso; omega)) (fun hq1 => ?_)
      refine xc_seq ?_
      refine xc_region ?_
      refine xo_rd (rd_move rfl) rfl ?_
      refine xo_rd (rd_indexAddr rfl rfl (by omega) (by omega)) rfl ?_
      refine xo_rd (rd_load1 rfl (hcell 0 _ rfl _ (by intro z hz; simp [hz]))) rfl ?_
      refine xo_rd (rd_cast (v' := .int .u8 (b0 / 64)) (rd_shr rfl rfl (by decide) (by decide)) rfl) rfl ?_
      refine xo_rd (rd_neq rfl rfl) rfl ?_
      refine xo_rd (rd_assign rfl) rfl ?_
      refine xo_nil ?_
      refine xq_seq ?_
      refine xc_ndec rfl (fun hq2 => ?_) (fun hq2 => ?_)
      refine xc_seq ?_
      refine xc_region ?_
      refine xo_rd (rd_build rfl rfl rfl) rfl ?_
      refine xo_ef rfl (ef_storeB [] _ rfl rfl (by first | rfl | assumption) rfl rfl rfl ?_)
      refine xo_rd (rd_assign rfl) rfl ?_
      refine xo_rd (rd_assign rfl) rfl ?_
      refine xo_nil ?_
      refine xq_seq ?_
      refine xc_ret ?_
      refine xq_block_ret ?_
      refine xq_then_ret ?_
      rotate_left
      refine xc_seq ?_
      refine xc_region ?_
      refine xo_rd (rd_move rfl) rfl ?_
      refine xo_rd (rd_move rfl) rfl ?_
      refine xo_split 24 rfl (fun hq3 => ?_) (fun hq3 => ?_)
      refine xo_grd rfl rfl (rd_move rfl) rfl ?_
      refine xo_grd rfl rfl (rd_indexAddr rfl rfl (by omega) (by omega)) rfl ?_
      refine xo_grd rfl rfl (rd_load1 rfl (hcell 1 _ rfl _ (by intro z hz; simp [hz]))) rfl ?_
      refine xo_gef rfl rfl rfl (ef_call rfl (XF.mono (xf_isFirst b1 fb hfb) ?_))
      rintro v L' ⟨rfl, rfl⟩
      refine xo_grd rfl rfl (rd_not rfl) rfl ?_
      refine xo_rd (rd_pickt rfl rfl) rfl ?_
      refine xo_rd (rd_assign rfl) rfl ?_
      refine xo_nil ?_
      refine xq_seq ?_
      refine xc_cond rfl (fun hq4 => ?_) (fun hq4 => ?_)
      refine xc_seq ?_
      refine xc_region ?_
      refine xo_rd (rd_build rfl rfl rfl) rfl ?_
      refine xo_ef rfl (ef_storeB [] _ rfl rfl (by first | rfl | assumption) rfl rfl rfl ?_)
      refine xo_rd (rd_assign rfl) rfl ?_
      refine xo_rd (rd_assign rfl) rfl ?_
      refine xo_nil ?_
      refine xq_seq ?_
      refine xc_ret ?_
      refine xq_block_ret ?_
      refine xq_then_ret ?_
      rotate_left
      refine xc_skip ?_
      refine xq_block ?_
      rotate_left
      refine xo_gskip rfl rfl rfl rfl ?_
      refine xo_gskip rfl rfl rfl rfl ?_
      refine xo_gskip rfl rfl rfl rfl ?_
      refine xo_gskip rfl rfl rfl rfl ?_
      refine xo_gskip rfl rfl rfl rfl ?_
      refine xo_rd (rd_pickf rfl rfl) rfl ?_
      refine xo_rd (rd_assign rfl) rfl ?_
      refine xo_nil ?_
      refine xq_seq ?_
      refine xc_condf rfl ?_
      refine xc_skip ?_
      refine xq_block ?_
      rotate_left
    · rw [show takeT b0 b1 k bs f = (20, .zero, []) from by unfold takeT; rw [if_pos hq2]]
      exact xq_retB3 (.inl rfl) Try.results54 rfl rfl rfl Kn.o0 rfl (List.sublist_cons_self _ _) (TkM.err 20)
    · have e1 : isFirst b1 = false := by rw [hfb]; simpa using hq4
      rw [show takeT b0 b1 k bs f = (60, .zero, []) from by unfold takeT; rw [if_neg (by omega), if_pos ⟨hq3, e1⟩]]
      exact xq_retB3 (.inl rfl) Try.results54 rfl rfl rfl Kn.o0 rfl (List.sublist_cons_self _ _) (TkM.err 60)
    · have e1 : isFirst b1 = true := by rw [hfb]; simpa using hq4
      exact xq_joined () ⟨hq2, fun h => by rw [e1] at h; exact absurd h.2 (by decide)⟩ rfl (by repeat (first | exact keep_nil | refine keep_cons rfl ?_))
    · exact xq_joined () ⟨hq2, fun h => by rw [hq3] at h; exact absurd h.1 (by decide)⟩ rfl (by repeat (first | exact keep_nil | refine keep_cons rfl ?_))
  · rintro _ ⟨h64, hff⟩
    focus
      refine xc_seq ?_
      refine xc_drawM [0, 1, 2, 4, 8, 16, 0, 64, 128, 256, 544, 1024, 4095] [0, 1, 2, 4, 8, 16, 0, 64, 128, 256, 544, 1024, 4095] (L) (by kernel_rfl) (by kernel_rfl) (by kernel_rfl) ?_
      refine xm_take 0 (m' := 1) rfl (by kernel_rfl) (by first | exact Sb.refl | exact Sb.nil | (repeat (first | exact Sb.nil | exact Sb.refl | exact Sb.app0 | apply Sb.keep | apply Sb.keepApp | apply Sb.cons | apply Sb.app))) (rd_move rfl) rfl (by kernel_rfl) ?_
      refine xm_take 1 (m' := 3) rfl (by kernel_rfl) (by first | exact Sb.refl | exact Sb.nil | (repeat (first | exact Sb.nil | exact Sb.refl | exact Sb.app0 | apply Sb.keep | apply Sb.keepApp | apply Sb.cons | apply Sb.app))) (rd_indexAddr rfl rfl (by omega) (by omega)) rfl (by kernel_rfl) ?_
      refine xm_take 2 (m' := 7) rfl (by kernel_rfl) (by first | exact Sb.refl | exact Sb.nil | (repeat (first | exact Sb.nil | exact Sb.refl | exact Sb.app0 | apply Sb.keep | apply Sb.keepApp | apply Sb.cons | apply Sb.app))) (rd_load1 rfl (hcell 2 _ rfl _ (by intro z hz; simp [hz]))) rfl (by kernel_rfl) ?_
      refine xm_take 3 (m' := 15) rfl (by kernel_rfl) (by first | exact Sb.refl | exact Sb.nil | (repeat (first | exact Sb.nil | exact Sb.refl | exact Sb.app0 | apply Sb.keep | apply Sb.keepApp | apply Sb.cons | apply Sb.app))) (rd_convn rfl (by omega) (by omega)) rfl (by kernel_rfl) ?_
      refine xm_take 4 (m' := 31) rfl (by kernel_rfl) (by first | exact Sb.refl | exact Sb.nil | (repeat (first | exact Sb.nil | exact Sb.refl | exact Sb.app0 | apply Sb.keep | apply Sb.keepApp | apply Sb.cons | apply Sb.app))) (rd_cast (v' := .int .i64 (b2 * 256)) (rd_shl rfl rfl (by decide) (by decide)) (congrArg (Value.int .i64) (show IntKind.i64.wrap (b2 * 256) = b2 * 256 from KB.h _ (by omega) (by omega)))) rfl (by kernel_rfl) ?_
      refine xm_take 5 (m' := 63) rfl (by kernel_rfl) (by first | exact Sb.refl | exact Sb.nil | (repeat (first | exact Sb.nil | exact Sb.refl | exact Sb.app0 | apply Sb.keep | apply Sb.keepApp | apply Sb.cons | apply Sb.app))) (rd_addn rfl rfl (by omega) (by omega)) rfl (by kernel_rfl) ?_
      refine xm_take 6 (m' := 127) rfl (by kernel_rfl) (by first | exact Sb.refl | exact Sb.nil | (repeat (first | exact Sb.nil | exact Sb.refl | exact Sb.app0 | apply Sb.keep | apply Sb.keepApp | apply Sb.cons | apply Sb.app))) (rd_move rfl) rfl (by kernel_rfl) ?_
      refine xm_take 7 (m' := 255) rfl (by kernel_rfl) (by first | exact Sb.refl | exact Sb.nil | (repeat (first | exact Sb.nil | exact Sb.refl | exact Sb.app0 | apply Sb.keep | apply Sb.keepApp | apply Sb.cons | apply Sb.app))) (rd_indexAddr rfl rfl (by omega) (by omega)) rfl (by kernel_rfl) ?_
      refine xm_take 8 (m' := 511) rfl (by kernel_rfl) (by first | exact Sb.refl | exact Sb.nil | (repeat (first | exact Sb.nil | exact Sb.refl | exact Sb.app0 | apply Sb.keep | apply Sb.keepApp | apply Sb.cons | apply Sb.app))) (rd_load1 rfl (hcell 3 _ rfl _ (by intro z hz; simp [hz]))) rfl (by kernel_rfl) ?_
      refine xm_take 9 (m' := 1023) rfl (by kernel_rfl) (by first | exact Sb.refl | exact Sb.nil | (repeat (first | exact Sb.nil | exact Sb.refl | exact Sb.app0 | apply Sb.keep | apply Sb.keepApp | apply Sb.cons | apply Sb.app))) (rd_convn rfl (by omega) (by omega)) rfl (by kernel_rfl) ?_
      refine xm_take 10 (m' := 2047) rfl (by kernel_rfl) (by first | exact Sb.refl | exact Sb.nil | (repeat (first | exact Sb.nil | exact Sb.refl | exact Sb.app0 | apply Sb.keep | apply Sb.keepApp | apply Sb.cons | apply Sb.app))) (rd_addn rfl rfl (by omega) (by omega)) rfl (by kernel_rfl) ?_
      refine xm_take 11 (m' := 4095) rfl (by kernel_rfl) (by first | exact Sb.refl | exact Sb.nil | (repeat (first | exact Sb.nil | exact Sb.refl | exact Sb.app0 | apply Sb.keep | apply Sb.keepApp | apply Sb.cons | apply Sb.app))) (rd_muln rfl rfl (by omega) (by omega)) rfl (by kernel_rfl) ?_
      refine xm_take 12 (m' := 8191) rfl (by kernel_rfl) (by first | exact Sb.refl | exact Sb.nil | (repeat (first | exact Sb.nil | exact Sb.refl | exact Sb.app0 | apply Sb.keep | apply Sb.keepApp | apply Sb.cons | apply Sb.app))) (rd_assign rfl) rfl (by kernel_rfl) ?_
      refine xm_done (by kernel_rfl) ?_
      refine xq_seq ?_
      refine xc_seq ?_
      refine xc_seq ?_
      refine xc_region ?_
      refine xo_rd (rd_move rfl) rfl ?_
      refine xo_rd (rd_move rfl) rfl ?_
      refine xo_rd (rd_len rfl) rfl ?_
      refine xo_rd (rd_gtr rfl rfl) rfl ?_
      refine xo_nil ?_
      refine xq_seq ?_
      refine xc_dec rfl (fun hq1 => ?_) (fun hq1 => ?_)
      refine xc_seq ?_
      refine xc_region ?_
      refine xo_rd (rd_build rfl rfl rfl) rfl ?_
      refine xo_ef rfl (ef_storeB [] _ rfl rfl (by first | rfl | assumption) rfl rfl rfl ?_)
      refine xo_rd (rd_assign rfl) rfl ?_
      refine xo_rd (rd_assign rfl) rfl ?_
      refine xo_nil ?_
      refine xq_seq ?_
      refine xc_ret ?_
      refine xq_then_ret ?_
      rotate_left
      refine xc_skip ?_
      refine xq_seq ?_
      rotate_left
    · rw [show takeT b0 b1 k bs f = (61, .zero, []) from by unfold takeT; rw [if_neg (by omega), if_neg hff, if_pos (by omega)]]
      exact xq_retB3 (.inl rfl) Try.results54 rfl rfl rfl Kn.o0 rfl (List.sublist_cons_self _ _) (TkM.err 61)
    · focus
        refine xc_seq ?_
        refine xc_drawM [0, 1, 2, 4, 0, 16, 32, 72, 255] [0, 1, 2, 4, 0, 16, 32, 72, 255] (L) (by kernel_rfl) (by kernel_rfl) (by kernel_rfl) ?_
        refine xm_take 0 (m' := 1) rfl (by kernel_rfl) (by first | exact Sb.refl | exact Sb.nil | (repeat (first | exact Sb.nil | exact Sb.refl | exact Sb.app0 | apply Sb.keep | apply Sb.keepApp | apply Sb.cons | apply Sb.app))) (rd_move rfl) rfl (by kernel_rfl) ?_
        refine xm_take 1 (m' := 3) rfl (by kernel_rfl) (by first | exact Sb.refl | exact Sb.nil | (repeat (first | exact Sb.nil | exact Sb.refl | exact Sb.app0 | apply Sb.keep | apply Sb.keepApp | apply Sb.cons | apply Sb.app))) (rd_indexAddr rfl rfl (by omega) (by omega)) rfl (by kernel_rfl) ?_
        refine xm_take 2 (m' := 7) rfl (by kernel_rfl) (by first | exact Sb.refl | exact Sb.nil | (repeat (first | exact Sb.nil | exact Sb.refl | exact Sb.app0 | apply Sb.keep | apply Sb.keepApp | apply Sb.cons | apply Sb.app))) (rd_load1 rfl (hcell 0 _ rfl _ (by intro z hz; simp [hz]))) rfl (by kernel_rfl) ?_
        refine xm_take 3 (m' := 15) rfl (by kernel_rfl) (by first | exact Sb.refl | exact Sb.nil | (repeat (first | exact Sb.nil | exact Sb.refl | exact Sb.app0 | apply Sb.keep | apply Sb.keepApp | apply Sb.cons | apply Sb.app))) (rd_cast (v' := .int .u8 (b0 % 32)) (rd_and rfl rfl) (congrArg (Value.int .u8) (and8_31 b0 g0.1 g0.2))) rfl (by kernel_rfl) ?_
        refine xm_take 4 (m' := 31) rfl (by kernel_rfl) (by first | exact Sb.refl | exact Sb.nil | (repeat (first | exact Sb.nil | exact Sb.refl | exact Sb.app0 | apply Sb.keep | apply Sb.keepApp | apply Sb.cons | apply Sb.app))) (rd_move rfl) rfl (by kernel_rfl) ?_
        refine xm_take 5 (m' := 63) rfl (by kernel_rfl) (by first | exact Sb.refl | exact Sb.nil | (repeat (first | exact Sb.nil | exact Sb.refl | exact Sb.app0 | apply Sb.keep | apply Sb.keepApp | apply Sb.cons | apply Sb.app))) (rd_indexAddr rfl rfl (by omega) (by omega)) rfl (by kernel_rfl) ?_
        refine xm_take 6 (m' := 127) rfl (by kernel_rfl) (by first | exact Sb.refl | exact Sb.nil | (repeat (first | exact Sb.nil | exact Sb.refl | exact Sb.app0 | apply Sb.keep | apply Sb.keepApp | apply Sb.cons | apply Sb.app))) (rd_load1 rfl (hcell 1 _ rfl _ (by intro z hz; simp [hz]))) rfl (by kernel_rfl) ?_
        refine xm_take 7 (m' := 255) rfl (by kernel_rfl) (by first | exact Sb.refl | exact Sb.nil | (repeat (first | exact Sb.nil | exact Sb.refl | exact Sb.app0 | apply Sb.keep | apply Sb.keepApp | apply Sb.cons | apply Sb.app))) (rd_build rfl rfl rfl) rfl (by kernel_rfl) ?_
        refine xm_one 8 (m' := 511) rfl (by kernel_rfl) rfl (by kernel_rfl) (ef_storeB [] _ rfl rfl (by first | rfl | assumption) rfl rfl rfl ?_)
        refine ⟨(by first | exact Sb.refl | exact Sb.nil | (repeat (first | exact Sb.nil | exact Sb.refl | exact Sb.app0 | apply Sb.keep | apply Sb.keepApp | apply Sb.cons | apply Sb.app))), ?_⟩
        refine xm_done (by kernel_rfl) ?_
        refine xq_seq ?_
        refine xc_seq ?_
        refine xc_drawM [0, 0, 3, 0, 0, 24, 7, 127] [0, 0, 3, 0, 0, 24, 7, 127] (L) (by kernel_rfl) (by kernel_rfl) (by kernel_rfl) ?_
        refine xm_take 0 (m' := 1) rfl (by kernel_rfl) (by first | exact Sb.refl | exact Sb.nil | (repeat (first | exact Sb.nil | exact Sb.refl | exact Sb.app0 | apply Sb.keep | apply Sb.keepApp | apply Sb.cons | apply Sb.app))) (rd_move rfl) rfl (by kernel_rfl) ?_
        refine xm_take 1 (m' := 3) rfl (by kernel_rfl) (by first | exact Sb.refl | exact Sb.nil | (repeat (first | exact Sb.nil | exact Sb.refl | exact Sb.app0 | apply Sb.keep | apply Sb.keepApp | apply Sb.cons | apply Sb.app))) (rd_move rfl) rfl (by kernel_rfl) ?_
        refine xm_take 2 (m' := 7) rfl (by kernel_rfl) (by first | exact Sb.refl | exact Sb.nil | (repeat (first | exact Sb.nil | exact Sb.refl | exact Sb.app0 | apply Sb.keep | apply Sb.keepApp | apply Sb.cons | apply Sb.app))) (rd_slLH rfl rfl rfl (by omega) (by omega) (by omega)) rfl (by kernel_rfl) ?_
        refine xm_take 3 (m' := 15) rfl (by kernel_rfl) (by first | exact Sb.refl | exact Sb.nil | (repeat (first | exact Sb.nil | exact Sb.refl | exact Sb.app0 | apply Sb.keep | apply Sb.keepApp | apply Sb.cons | apply Sb.app))) (rd_move rfl) rfl (by kernel_rfl) ?_
        refine xm_take 4 (m' := 31) rfl (by kernel_rfl) (by first | exact Sb.refl | exact Sb.nil | (repeat (first | exact Sb.nil | exact Sb.refl | exact Sb.app0 | apply Sb.keep | apply Sb.keepApp | apply Sb.cons | apply Sb.app))) (rd_move rfl) rfl (by kernel_rfl) ?_
        refine xm_take 5 (m' := 63) rfl (by kernel_rfl) (by first | exact Sb.refl | exact Sb.nil | (repeat (first | exact Sb.nil | exact Sb.refl | exact Sb.app0 | apply Sb.keep | apply Sb.keepApp | apply Sb.cons | apply Sb.app))) (rd_slLo rfl rfl (by omega) (by omega)) rfl (by kernel_rfl) ?_
        refine xm_take 6 (m' := 127) rfl (by kernel_rfl) (by first | exact Sb.refl | exact Sb.nil | (repeat (first | exact Sb.nil | exact Sb.refl | exact Sb.app0 | apply Sb.keep | apply Sb.keepApp | apply Sb.cons | apply Sb.app))) (rd_assign rfl) rfl (by kernel_rfl) ?_
        refine xm_take 7 (m' := 255) rfl (by kernel_rfl) (by first | exact Sb.refl | exact Sb.nil | (repeat (first | exact Sb.nil | exact Sb.refl | exact Sb.app0 | apply Sb.keep | apply Sb.keepApp | apply Sb.cons | apply Sb.app))) (rd_assign rfl) rfl (by kernel_rfl) ?_
        refine xm_done (by kernel_rfl) ?_
        refine xq_seq ?_
      have hE : (4 * (1 + b2 * 256 + b3)).toNat = 4 + k := by omega
      have hE1 : 4 + k - Int.toNat 4 = k := Nat.add_sub_cancel_left 4 k
      have hE2 : m - (4 + k) = bs.length - k := by omega
      rw [hE, hE1, hE2]
      have hp1 : ∀ L0, Rs W L0 (some ⟨b, o, none⟩) (ints .u8 (b0 :: b1 :: b2 :: b3 :: bs)) → Rs W L0 (slp (some ⟨b, o, none⟩) c (Int.toNat 4) 1) (ints .u8 bs) := fun L0 h => h.slp c 4 (by rw [ints_len]; omega)
      have hp2 : ∀ L0, Rs W L0 (some ⟨b, o, none⟩) (ints .u8 (b0 :: b1 :: b2 :: b3 :: bs)) → Rs W L0 (slp (some ⟨b, o, none⟩) c (4 + k) 1) (ints .u8 (bs.drop k)) := fun L0 h => by
        have := h.slp c (4 + k) (by rw [ints_len]; omega)
        rwa [← ints_drop, show (b0 :: b1 :: b2 :: b3 :: bs).drop (4 + k) = bs.drop k from by rw [Nat.add_comm]; rfl] at this
      generalize slp (some ⟨b, o, none⟩) c (Int.toNat 4) 1 = p1 at *
      generalize slp (some ⟨b, o, none⟩) c (4 + k) 1 = p2 at *
      have hkl : k ≤ bs.length := by omega
      refine xc_join (ι := Int × Nat) (fun s => takeT b0 b1 k bs f = (0, ⟨b0 % 32, b1, bs.take s.2, s.1⟩, bs.drop k) ∧ s.2 ≤ k ∧ By s.1) (fun s => (r4, .cells #[.int .u8 (b0 % 32), .int .u8 b1, .slice none 0 0, .int .u8 s.1] 81 (0, 0)) :: L) (fun s => [(4, .pointer (some ⟨r4, 0, none⟩)), (5, .slice p2 (bs.length - k) (c - (4 + k))), (8, .slice p1 s.2 (c - Int.toNat 4))]) ?_ ?_
      · skip
        by_cases h32 : b0 / 32 % 2 = 1
        · by_cases hk0 : k = 0 ∨ k < bs.length
          · focus
              refine xc_seq ?_
              refine xc_region ?_
              refine xo_rd (rd_move rfl) rfl ?_
              refine xo_rd (rd_indexAddr rfl rfl (by omega) (by omega)) rfl ?_
              refine xo_rd (rd_load1 rfl (hcell 0 _ rfl _ (by intro z hz; simp [hz]))) rfl ?_
              refine xo_rd (rd_cast (v' := .int .u8 (b0 / 32 % 2 * 32)) (rd_and rfl rfl) (congrArg (Value.int .u8) (and8_32 b0 g0.1 g0.2))) rfl ?_
              refine xo_rd (rd_neq rfl rfl) rfl ?_
              refine xo_nil ?_
              refine xq_seq ?_
              refine xc_ndec rfl (fun h1 => ?_) (fun h1 => (by exfalso; omega))
              refine xc_seq ?_
              refine xc_region ?_
              refine xo_rd (rd_move rfl) rfl ?_
              refine xo_rd (rd_len rfl) rfl ?_
              refine xo_rd (rd_assign rfl) rfl ?_
              refine xo_nil ?_
              refine xq_seq ?_
              refine xc_seq ?_
              refine xc_seq ?_
              refine xc_region ?_
              refine xo_rd (rd_move rfl) rfl ?_
              refine xo_rd (rd_len rfl) rfl ?_
              refine xo_rd (rd_gtr rfl rfl) rfl ?_
              refine xo_rd (rd_move rfl) rfl ?_
              refine xo_dec 73 rfl (fun h2 => ?_) (fun h2 => ?_)
              refine xo_gskip rfl rfl rfl rfl ?_
              refine xo_gskip rfl rfl rfl rfl ?_
              refine xo_rd (rd_pickt rfl rfl) rfl ?_
              refine xo_rd (rd_move rfl) rfl ?_
              refine xo_gskip rfl rfl rfl rfl ?_
              refine xo_gskip rfl rfl rfl rfl ?_
              refine xo_gskip rfl rfl rfl rfl ?_
              refine xo_gskip rfl rfl rfl rfl ?_
              refine xo_gskip rfl rfl rfl rfl ?_
              refine xo_gskip rfl rfl rfl rfl ?_
              refine xo_rd (rd_pickt rfl rfl) rfl ?_
              refine xo_rd (rd_move rfl) rfl ?_
              refine xo_gskip rfl rfl rfl rfl ?_
              refine xo_gskip rfl rfl rfl rfl ?_
              refine xo_gskip rfl rfl rfl rfl ?_
              refine xo_gskip rfl rfl rfl rfl ?_
              refine xo_gskip rfl rfl rfl rfl ?_
              refine xo_gskip rfl rfl rfl rfl ?_
              refine xo_gskip rfl rfl rfl rfl ?_
              refine xo_rd (rd_pickt rfl rfl) rfl ?_
              refine xo_rd (rd_move rfl) rfl ?_
              refine xo_gskip rfl rfl rfl rfl ?_
              refine xo_gskip rfl rfl rfl rfl ?_
              refine xo_gskip rfl rfl rfl rfl ?_
              refine xo_gskip rfl rfl rfl rfl ?_
              refine xo_gskip rfl rfl rfl rfl ?_
              refine xo_gskip rfl rfl rfl rfl ?_
              refine xo_gskip rfl rfl rfl rfl ?_
              refine xo_gskip rfl rfl rfl rfl ?_
              refine xo_rd (rd_pickt rfl rfl) rfl ?_
              refine xo_nil ?_
              refine xq_seq ?_
              refine xc_condt rfl ?_
              refine xc_seq ?_
              refine xc_region ?_
              refine xo_rd (rd_build rfl rfl rfl) rfl ?_
              refine xo_ef rfl (ef_storeB [] _ rfl rfl (by first | rfl | assumption) rfl rfl rfl ?_)
              refine xo_rd (rd_assign rfl) rfl ?_
              refine xo_rd (rd_assign rfl) rfl ?_
              refine xo_nil ?_
              refine xq_seq ?_
              refine xc_ret ?_
              refine xq_then_ret ?_
              refine xq_then_ret ?_
              rotate_left
              refine xo_grd rfl rfl (rd_move rfl) rfl ?_
              refine xo_grd rfl rfl (rd_eql rfl rfl) rfl ?_
              refine xo_rd (rd_pickf rfl rfl) rfl ?_
              refine xo_rd (rd_move rfl) rfl ?_
              refine xo_dec 77 rfl (fun h3 => ?_) (fun h3 => (by exfalso; omega))
              refine xo_gskip rfl rfl rfl rfl ?_
              refine xo_gskip rfl rfl rfl rfl ?_
              refine xo_gskip rfl rfl rfl rfl ?_
              refine xo_gskip rfl rfl rfl rfl ?_
              refine xo_gskip rfl rfl rfl rfl ?_
              refine xo_gskip rfl rfl rfl rfl ?_
              refine xo_rd (rd_pickt rfl rfl) rfl ?_
              refine xo_rd (rd_move rfl) rfl ?_
              refine xo_gskip rfl rfl rfl rfl ?_
              refine xo_gskip rfl rfl rfl rfl ?_
              refine xo_gskip rfl rfl rfl rfl ?_
              refine xo_gskip rfl rfl rfl rfl ?_
              refine xo_gskip rfl rfl rfl rfl ?_
              refine xo_gskip rfl rfl rfl rfl ?_
              refine xo_gskip rfl rfl rfl rfl ?_
              refine xo_rd (rd_pickt rfl rfl) rfl ?_
              refine xo_rd (rd_move rfl) rfl ?_
              refine xo_gskip rfl rfl rfl rfl ?_
              refine xo_gskip rfl rfl rfl rfl ?_
              refine xo_gskip rfl rfl rfl rfl ?_
              refine xo_gskip rfl rfl rfl rfl ?_
              refine xo_gskip rfl rfl rfl rfl ?_
              refine xo_gskip rfl rfl rfl rfl ?_
              refine xo_gskip rfl rfl rfl rfl ?_
              refine xo_gskip rfl rfl rfl rfl ?_
              refine xo_rd (rd_pickt rfl rfl) rfl ?_
              refine xo_nil ?_
              refine xq_seq ?_
              refine xc_condt rfl ?_
              refine xc_seq ?_
              refine xc_region ?_
              refine xo_rd (rd_build rfl rfl rfl) rfl ?_
              refine xo_ef rfl (ef_storeB [] _ rfl rfl (by first | rfl | assumption) rfl rfl rfl ?_)
              refine xo_rd (rd_assign rfl) rfl ?_
              refine xo_rd (rd_assign rfl) rfl ?_
              refine xo_nil ?_
              refine xq_seq ?_
              refine xc_ret ?_
              refine xq_then_ret ?_
              refine xq_then_ret ?_
              rotate_left
            all_goals rw [show takeT b0 b1 k bs f = (21, .zero, []) from by unfold takeT; rw [if_neg (by omega), if_neg hff, if_neg (by omega), if_pos h32, if_pos (by rcases hk0 with h | h; exact .inr (.inl h); exact .inl h)]]
            all_goals exact xq_retB3 (.inl rfl) Try.results54 rfl rfl rfl Kn.o0 rfl (List.sublist_cons_self _ _) (TkM.err 21)
          · obtain ⟨bb, oo, hpp, hcz⟩ := (hp1 L hr).int (i := k - 1) (by omega)
            have hz := hb bs[k - 1] (by simp)
            have hzg : bs.getD (k - 1) 0 = bs[k - 1] := getD_get (by omega)
            generalize bs[k - 1] = z at *
            unfold By at hz
            have hcz' : ∀ L', (∀ z, z ∈ L → z ∈ L') → Cl W L' bb (oo + ((k : Int) - 1).toNat * 1) (.int .u8 z) := fun L' h => by
              rw [show ((k : Int) - 1).toNat = k - 1 from by omega]; exact hcz.mono h
            subst hpp
            focus
              refine xc_seq ?_
              refine xc_region ?_
              refine xo_rd (rd_move rfl) rfl ?_
              refine xo_rd (rd_indexAddr rfl rfl (by omega) (by omega)) rfl ?_
              refine xo_rd (rd_load1 rfl (hcell 0 _ rfl _ (by intro z hz; simp [hz]))) rfl ?_
              refine xo_rd (rd_cast (v' := .int .u8 (b0 / 32 % 2 * 32)) (rd_and rfl rfl) (congrArg (Value.int .u8) (and8_32 b0 g0.1 g0.2))) rfl ?_
              refine xo_rd (rd_neq rfl rfl) rfl ?_
              refine xo_nil ?_
              refine xq_seq ?_
              refine xc_ndec rfl (fun hw1 => ?_) (fun hw1 => (by exfalso; omega))
              refine xc_seq ?_
              refine xc_region ?_
              refine xo_rd (rd_move rfl) rfl ?_
              refine xo_rd (rd_len rfl) rfl ?_
              refine xo_rd (rd_assign rfl) rfl ?_
              refine xo_nil ?_
              refine xq_seq ?_
              refine xc_seq ?_
              refine xc_seq ?_
              refine xc_region ?_
              refine xo_rd (rd_move rfl) rfl ?_
              refine xo_rd (rd_len rfl) rfl ?_
              refine xo_rd (rd_gtr rfl rfl) rfl ?_
              refine xo_rd (rd_move rfl) rfl ?_
              refine xo_dec 73 rfl (fun hw2 => (by exfalso; omega)) (fun hw2 => ?_)
              refine xo_grd rfl rfl (rd_move rfl) rfl ?_
              refine xo_grd rfl rfl (rd_eql rfl rfl) rfl ?_
              refine xo_rd (rd_pickf rfl rfl) rfl ?_
              refine xo_rd (rd_move rfl) rfl ?_
              refine xo_dec 77 rfl (fun hw3 => (by exfalso; omega)) (fun hw3 => ?_)
              refine xo_grd rfl rfl (rd_move rfl) rfl ?_
              refine xo_grd rfl rfl (rd_move rfl) rfl ?_
              refine xo_grd rfl rfl (rd_subn rfl rfl (by omega) (by omega)) rfl ?_
              refine xo_grd rfl rfl (rd_indexAddr rfl rfl (by omega) (by omega)) rfl ?_
              refine xo_grd rfl rfl (rd_load1 rfl (hcz' _ (by intro z hz; simp [hz]))) rfl ?_
              refine xo_grd rfl rfl (rd_eql rfl rfl) rfl ?_
              refine xo_rd (rd_pickf rfl rfl) rfl ?_
              refine xo_rd (rd_move rfl) rfl ?_
              refine xo_dec 85 rfl (fun hw4 => ?_) (fun hw4 => ?_)
              refine xo_gskip rfl rfl rfl rfl ?_
              refine xo_gskip rfl rfl rfl rfl ?_
              refine xo_gskip rfl rfl rfl rfl ?_
              refine xo_gskip rfl rfl rfl rfl ?_
              refine xo_gskip rfl rfl rfl rfl ?_
              refine xo_gskip rfl rfl rfl rfl ?_
              refine xo_gskip rfl rfl rfl rfl ?_
              refine xo_rd (rd_pickt rfl rfl) rfl ?_
              refine xo_rd (rd_move rfl) rfl ?_
              refine xo_gskip rfl rfl rfl rfl ?_
              refine xo_gskip rfl rfl rfl rfl ?_
              refine xo_gskip rfl rfl rfl rfl ?_
              refine xo_gskip rfl rfl rfl rfl ?_
              refine xo_gskip rfl rfl rfl rfl ?_
              refine xo_gskip rfl rfl rfl rfl ?_
              refine xo_gskip rfl rfl rfl rfl ?_
              refine xo_gskip rfl rfl rfl rfl ?_
              refine xo_rd (rd_pickt rfl rfl) rfl ?_
              refine xo_nil ?_
              refine xq_seq ?_
              refine xc_condt rfl ?_
              refine xc_seq ?_
              refine xc_region ?_
              refine xo_rd (rd_build rfl rfl rfl) rfl ?_
              refine xo_ef rfl (ef_storeB [] _ rfl rfl (by first | rfl | assumption) rfl rfl rfl ?_)
              refine xo_rd (rd_assign rfl) rfl ?_
              refine xo_rd (rd_assign rfl) rfl ?_
              refine xo_nil ?_
              refine xq_seq ?_
              refine xc_ret ?_
              refine xq_then_ret ?_
              refine xq_then_ret ?_
              rotate_left
              refine xo_grd rfl rfl (rd_move rfl) rfl ?_
              refine xo_grd rfl rfl (rd_move rfl) rfl ?_
              refine xo_grd rfl rfl (rd_subn rfl rfl (by omega) (by omega)) rfl ?_
              refine xo_grd rfl rfl (rd_indexAddr rfl rfl (by omega) (by omega)) rfl ?_
              refine xo_grd rfl rfl (rd_load1 rfl (hcz' _ (by intro z hz; simp [hz]))) rfl ?_
              refine xo_grd rfl rfl (rd_remn rfl rfl (by omega) (by omega)) rfl ?_
              refine xo_grd rfl rfl (rd_neq rfl rfl) rfl ?_
              refine xo_rd (rd_pickf rfl rfl) rfl ?_
              refine xo_rd (rd_move rfl) rfl ?_
              refine xo_ndec 94 rfl (fun hw5 => ?_) (fun hw5 => ?_)
              refine xo_gskip rfl rfl rfl rfl ?_
              refine xo_gskip rfl rfl rfl rfl ?_
              refine xo_gskip rfl rfl rfl rfl ?_
              refine xo_gskip rfl rfl rfl rfl ?_
              refine xo_gskip rfl rfl rfl rfl ?_
              refine xo_gskip rfl rfl rfl rfl ?_
              refine xo_gskip rfl rfl rfl rfl ?_
              refine xo_gskip rfl rfl rfl rfl ?_
              refine xo_rd (rd_pickt rfl rfl) rfl ?_
              refine xo_nil ?_
              refine xq_seq ?_
              refine xc_condt rfl ?_
              refine xc_seq ?_
              refine xc_region ?_
              refine xo_rd (rd_build rfl rfl rfl) rfl ?_
              refine xo_ef rfl (ef_storeB [] _ rfl rfl (by first | rfl | assumption) rfl rfl rfl ?_)
              refine xo_rd (rd_assign rfl) rfl ?_
              refine xo_rd (rd_assign rfl) rfl ?_
              refine xo_nil ?_
              refine xq_seq ?_
              refine xc_ret ?_
              refine xq_then_ret ?_
              refine xq_then_ret ?_
              rotate_left
              refine xo_grd rfl rfl (rd_move rfl) rfl ?_
              refine xo_grd rfl rfl (rd_move rfl) rfl ?_
              refine xo_grd rfl rfl (rd_subn rfl rfl (by omega) (by omega)) rfl ?_
              refine xo_grd rfl rfl (rd_indexAddr rfl rfl (by omega) (by omega)) rfl ?_
              refine xo_grd rfl rfl (rd_load1 rfl (hcz' _ (by intro z hz; simp [hz]))) rfl ?_
              refine xo_grd rfl rfl (rd_convn rfl (by omega) (by omega)) rfl ?_
              refine xo_grd rfl rfl (rd_move rfl) rfl ?_
              refine xo_grd rfl rfl (rd_gtr rfl rfl) rfl ?_
              refine xo_rd (rd_pickf rfl rfl) rfl ?_
              refine xo_nil ?_
              refine xq_seq ?_
              refine xc_dec rfl (fun hw6 => ?_) (fun hw6 => ?_)
              refine xc_seq ?_
              refine xc_region ?_
              refine xo_rd (rd_build rfl rfl rfl) rfl ?_
              refine xo_ef rfl (ef_storeB [] _ rfl rfl (by first | rfl | assumption) rfl rfl rfl ?_)
              refine xo_rd (rd_assign rfl) rfl ?_
              refine xo_rd (rd_assign rfl) rfl ?_
              refine xo_nil ?_
              refine xq_seq ?_
              refine xc_ret ?_
              refine xq_then_ret ?_
              refine xq_then_ret ?_
              rotate_left
              refine xc_skip ?_
              refine xq_seq ?_
              refine xc_seq ?_
              refine xc_region ?_
              refine xo_rd (rd_move rfl) rfl ?_
              refine xo_rd (rd_move rfl) rfl ?_
              refine xo_rd (rd_subn rfl rfl (by omega) (by omega)) rfl ?_
              refine xo_rd (rd_indexAddr rfl rfl (by omega) (by omega)) rfl ?_
              refine xo_rd (rd_load1 rfl (hcz' _ (by intro z hz; simp [hz]))) rfl ?_
              refine xo_rd (rd_fieldAddr rfl) rfl ?_
              refine xo_ef rfl (ef_store1 [] _ rfl rfl (by first | rfl | assumption) rfl rfl rfl ?_)
              refine xo_nil ?_
              refine xq_seq ?_
              refine xc_region ?_
              refine xo_rd (rd_move rfl) rfl ?_
              refine xo_rd (rd_move rfl) rfl ?_
              refine xo_rd (rd_fieldAddr rfl) rfl ?_
              refine xo_rd (rd_load1 rfl (Cl.o0 rfl)) rfl ?_
              refine xo_rd (rd_convn rfl (by omega) (by omega)) rfl ?_
              refine xo_rd (rd_subn rfl rfl (by omega) (by omega)) rfl ?_
              refine xo_rd (rd_sliceHi rfl rfl (by omega) (by omega)) rfl ?_
              refine xo_rd (rd_assign rfl) rfl ?_
              refine xo_nil ?_
              rotate_left
            iterate 3
              · rw [show takeT b0 b1 k bs f = (21, .zero, []) from by unfold takeT; rw [if_neg (by omega), if_neg hff, if_neg (by omega), if_pos h32, hzg, if_pos (by omega)]]
                exact xq_retB3 (.inl rfl) Try.results54 rfl rfl rfl Kn.o0 rfl (List.sublist_cons_self _ _) (TkM.err 21)
            rw [show ((k : Int) - z).toNat = k - z.toNat from by omega]
            refine xq_joined ((z, k - z.toNat) : Int × Nat) ⟨?_, by dsimp only; omega, hz⟩ rfl (by repeat (first | exact keep_nil | refine keep_cons rfl ?_))
            dsimp only
            unfold takeT
            rw [if_neg (by omega), if_neg hff, if_neg (by omega), if_pos h32, hzg, if_neg (by omega), List.drop_of_length_le (by omega)]
        · focus
            refine xc_seq ?_
            refine xc_region ?_
            refine xo_rd (rd_move rfl) rfl ?_
            refine xo_rd (rd_indexAddr rfl rfl (by omega) (by omega)) rfl ?_
            refine xo_rd (rd_load1 rfl (hcell 0 _ rfl _ (by intro z hz; simp [hz]))) rfl ?_
            refine xo_rd (rd_cast (v' := .int .u8 (b0 / 32 % 2 * 32)) (rd_and rfl rfl) (congrArg (Value.int .u8) (and8_32 b0 g0.1 g0.2))) rfl ?_
            refine xo_rd (rd_neq rfl rfl) rfl ?_
            refine xo_nil ?_
            refine xq_seq ?_
            refine xc_ndec rfl (fun h1 => (by exfalso; omega)) (fun h1 => ?_)
            refine xc_skip ?_
          refine xq_joined ((0, k) : Int × Nat) ⟨?_, Nat.le_refl _, (⟨by decide, by decide⟩ : By 0)⟩ rfl (by repeat (first | exact keep_nil | refine keep_cons rfl ?_))
          dsimp only
          unfold takeT
          rw [if_neg (by omega), if_neg hff, if_neg (by omega), if_neg h32]
      · rintro ⟨pd, n'⟩ ⟨ht, hn, hpd⟩
        dsimp only at ht hn hpd ⊢
        rw [ht]
        have hnl : (bs.take n').length = n' := by rw [List.length_take]; omega
        focus
          refine xc_seq ?_
          refine xc_region ?_
          refine xo_rd (rd_move rfl) rfl ?_
          refine xo_ef rfl (ef_call rfl (XF.mono (xf_clone p1 n' (c - Int.toNat 4) (ints .u8 (bs.take n')) (by rw [ints_len]; omega) ((((hp1 L hr).mono (by intro z hz; simp [hz])).ints_take n')) (ints_one _ _) (by omega)) ?_))
          rintro v L' ⟨q', k', l', rfl, hO, _, rfl⟩
          refine xo_perm List.perm_append_comm ?_
          refine xo_rd (rd_fieldAddr rfl) rfl ?_
          refine xo_ef rfl (ef_store1 [] _ rfl rfl (by first | rfl | assumption) rfl rfl rfl ?_)
          refine xo_nil ?_
          refine xq_seq ?_
          refine xc_seq ?_
          refine xc_region ?_
          refine xo_rd (rd_loadB rfl Kn.o0 (by rfl)) rfl ?_
          refine xo_rd (rd_move rfl) rfl ?_
          refine xo_ef rfl (ef_storeB [] _ rfl rfl (by first | rfl | assumption) rfl rfl rfl ?_)
          refine xo_rd (rd_assign rfl) rfl ?_
          refine xo_rd (rd_assign rfl) rfl ?_
          refine xo_nil ?_
          refine xq_seq ?_
          refine xc_ret ?_
        refine xq_permT [_] (List.perm_append_comm (l₁ := L) (l₂ := l')) ?_
        have hO2 : SlO 1 5 (.slice q' (bs.take n').length k') (bs.take n').length (ints .u8 (bs.take n')) l' := by rw [hnl]; exact hO
        refine xq_retB3 (.inl rfl) Try.results54 rfl rfl rfl Kn.o0 rfl (List.sublist_cons_self _ _) ⟨q', k', l', p2, c - (4 + k), ?_, hO2, hp2, by dsimp only; rw [List.length_drop]; omega, rfl⟩
        dsimp only [Pc.enc]
        rw [hnl, List.length_drop]
        rfl
end Go.Proofs.Ytogilblilljpmaa.X
