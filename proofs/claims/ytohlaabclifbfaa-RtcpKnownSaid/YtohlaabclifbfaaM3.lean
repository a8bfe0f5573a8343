/-
  Texts of my own, put together: walks and laws for this seat. No condition.
-/
import Derived.Test.YtohlaabclifbfaaM1
import Derived.Test.YtohlaabclifbfaaProg
import Derived.KernelRfl
import Derived.Test.YtohlaabclifbfaaM2
/-
  What is known of the types and functions of this seat's translation, as instances; written by a program of mine off the translation. No condition.
-/
namespace Go.Proofs.Ytohlaabclifbfaa.X
open Go

instance : Inf Try.prog 1 .nilFunc 1 8 := Inf.of (by kernel_rfl) rfl
instance : Ta Try.prog 1 false := ⟨Try.isAgg1⟩
instance : Inf Try.prog 2 (.int .i64 0) 1 8 := Inf.of (by kernel_rfl) rfl
instance : Ta Try.prog 2 false := ⟨Try.isAgg2⟩
instance : Ik Try.prog 2 .i64 := ⟨Try.underlying2⟩
instance : Inf Try.prog 3 (.int .i64 0) 1 8 := Inf.of (by kernel_rfl) rfl
instance : Ta Try.prog 3 false := ⟨Try.isAgg3⟩
instance : Ik Try.prog 3 .i64 := ⟨Try.underlying3⟩
instance : Inf Try.prog 4 (.bool false) 1 1 := Inf.of (by kernel_rfl) rfl
instance : Ta Try.prog 4 false := ⟨Try.isAgg4⟩
instance : Bo Try.prog 4 := ⟨Try.underlying4⟩
instance : Inf Try.prog 5 (.int .u8 0) 1 1 := Inf.of (by kernel_rfl) rfl
instance : Ta Try.prog 5 false := ⟨Try.isAgg5⟩
instance : Ik Try.prog 5 .u8 := ⟨Try.underlying5⟩
instance : Inf Try.prog 6 (.int .u8 0) 1 1 := Inf.of (by kernel_rfl) rfl
instance : Ta Try.prog 6 false := ⟨Try.isAgg6⟩
instance : Ik Try.prog 6 .u8 := ⟨Try.underlying6⟩
instance : Inf Try.prog 7 (.agg #[(.int .i64 0), (.int .i64 0), (.bool false), (.int .u8 0)]) 4 24 := Inf.of (by kernel_rfl) rfl
instance : Ta Try.prog 7 true := ⟨Try.isAgg7⟩
instance : Pl Try.prog 7 [(0, 1), (1, 1), (2, 1), (3, 1)] := ⟨_, Try.underlying7, fun w => by kernel_rfl⟩
instance : Fd Try.prog 7 0 0 2 := ⟨_, _, Try.underlying7, rfl, rfl, rfl⟩
instance : Fd Try.prog 7 1 1 3 := ⟨_, _, Try.underlying7, rfl, rfl, rfl⟩
instance : Fd Try.prog 7 2 2 4 := ⟨_, _, Try.underlying7, rfl, rfl, rfl⟩
instance : Fd Try.prog 7 3 3 6 := ⟨_, _, Try.underlying7, rfl, rfl, rfl⟩
instance : Inf Try.prog 8 (.agg #[(.int .i64 0), (.int .i64 0), (.bool false), (.int .u8 0)]) 4 24 := Inf.of (by kernel_rfl) rfl
instance : Ta Try.prog 8 true := ⟨Try.isAgg8⟩
instance : Pl Try.prog 8 [(0, 1), (1, 1), (2, 1), (3, 1)] := ⟨_, Try.underlying8, fun w => by kernel_rfl⟩
instance : Fd Try.prog 8 0 0 2 := ⟨_, _, Try.underlying8, rfl, rfl, rfl⟩
instance : Fd Try.prog 8 1 1 3 := ⟨_, _, Try.underlying8, rfl, rfl, rfl⟩
instance : Fd Try.prog 8 2 2 4 := ⟨_, _, Try.underlying8, rfl, rfl, rfl⟩
instance : Fd Try.prog 8 3 3 6 := ⟨_, _, Try.underlying8, rfl, rfl, rfl⟩
instance : Inf Try.prog 9 (.string ⟨#[]⟩) 1 16 := Inf.of (by kernel_rfl) rfl
instance : Ta Try.prog 9 false := ⟨Try.isAgg9⟩
instance : St Try.prog 9 := ⟨Try.underlying9⟩
instance : Inf Try.prog 10 (.string ⟨#[]⟩) 1 16 := Inf.of (by kernel_rfl) rfl
instance : Ta Try.prog 10 false := ⟨Try.isAgg10⟩
instance : St Try.prog 10 := ⟨Try.underlying10⟩
instance : Inf Try.prog 11 (.string ⟨#[]⟩) 1 16 := Inf.of (by kernel_rfl) rfl
instance : Ta Try.prog 11 false := ⟨Try.isAgg11⟩
instance : St Try.prog 11 := ⟨Try.underlying11⟩
instance : Inf Try.prog 12 (.int .u64 0) 1 8 := Inf.of (by kernel_rfl) rfl
instance : Ta Try.prog 12 false := ⟨Try.isAgg12⟩
instance : Ik Try.prog 12 .u64 := ⟨Try.underlying12⟩
instance : Inf Try.prog 13 (.agg #[(.string ⟨#[]⟩), (.int .u64 0)]) 2 24 := Inf.of (by kernel_rfl) rfl
instance : Ta Try.prog 13 true := ⟨Try.isAgg13⟩
instance : Pl Try.prog 13 [(0, 1), (1, 1)] := ⟨_, Try.underlying13, fun w => by kernel_rfl⟩
instance : Fd Try.prog 13 0 0 9 := ⟨_, _, Try.underlying13, rfl, rfl, rfl⟩
instance : Fd Try.prog 13 1 1 12 := ⟨_, _, Try.underlying13, rfl, rfl, rfl⟩
instance : Inf Try.prog 14 (.agg #[(.string ⟨#[]⟩), (.int .u64 0)]) 2 24 := Inf.of (by kernel_rfl) rfl
instance : Ta Try.prog 14 true := ⟨Try.isAgg14⟩
instance : Pl Try.prog 14 [(0, 1), (1, 1)] := ⟨_, Try.underlying14, fun w => by kernel_rfl⟩
instance : Fd Try.prog 14 0 0 9 := ⟨_, _, Try.underlying14, rfl, rfl, rfl⟩
instance : Fd Try.prog 14 1 1 12 := ⟨_, _, Try.underlying14, rfl, rfl, rfl⟩
instance : Inf Try.prog 15 (.pointer none) 1 8 := Inf.of (by kernel_rfl) rfl
instance : Ta Try.prog 15 false := ⟨Try.isAgg15⟩
instance : Pn Try.prog 15 141 := ⟨Try.underlying15⟩
instance : Inf Try.prog 16 (.pointer none) 1 8 := Inf.of (by kernel_rfl) rfl
instance : Ta Try.prog 16 false := ⟨Try.isAgg16⟩
instance : Pn Try.prog 16 144 := ⟨Try.underlying16⟩
instance : Inf Try.prog 17 (.pointer none) 1 8 := Inf.of (by kernel_rfl) rfl
instance : Ta Try.prog 17 false := ⟨Try.isAgg17⟩
instance : Pn Try.prog 17 152 := ⟨Try.underlying17⟩
instance : Inf Try.prog 18 (.agg #[(.pointer none)]) 1 8 := Inf.of (by kernel_rfl) rfl
instance : Ta Try.prog 18 true := ⟨Try.isAgg18⟩
instance : Pl Try.prog 18 [(0, 1)] := ⟨_, Try.underlying18, fun w => by kernel_rfl⟩
instance : Fd Try.prog 18 0 0 17 := ⟨_, _, Try.underlying18, rfl, rfl, rfl⟩
instance : Inf Try.prog 19 (.agg #[(.pointer none)]) 1 8 := Inf.of (by kernel_rfl) rfl
instance : Ta Try.prog 19 true := ⟨Try.isAgg19⟩
instance : Pl Try.prog 19 [(0, 1)] := ⟨_, Try.underlying19, fun w => by kernel_rfl⟩
instance : Fd Try.prog 19 0 0 17 := ⟨_, _, Try.underlying19, rfl, rfl, rfl⟩
instance : Inf Try.prog 20 .nilIface 1 16 := Inf.of (by kernel_rfl) rfl
instance : Ta Try.prog 20 false := ⟨Try.isAgg20⟩
instance : Inf Try.prog 21 (.int .i32 0) 1 4 := Inf.of (by kernel_rfl) rfl
instance : Ta Try.prog 21 false := ⟨Try.isAgg21⟩
instance : Ik Try.prog 21 .i32 := ⟨Try.underlying21⟩
instance : Inf Try.prog 22 (.slice none 0 0) 1 24 := Inf.of (by kernel_rfl) rfl
instance : Ta Try.prog 22 false := ⟨Try.isAgg22⟩
instance : Sl Try.prog 22 5 := ⟨Try.underlying22⟩
instance : Inf Try.prog 23 .nilFunc 1 8 := Inf.of (by kernel_rfl) rfl
instance : Ta Try.prog 23 false := ⟨Try.isAgg23⟩
instance : Inf Try.prog 24 .nilFunc 1 8 := Inf.of (by kernel_rfl) rfl
instance : Ta Try.prog 24 false := ⟨Try.isAgg24⟩
instance : Inf Try.prog 25 (.slice none 0 0) 1 24 := Inf.of (by kernel_rfl) rfl
instance : Ta Try.prog 25 false := ⟨Try.isAgg25⟩
instance : Sl Try.prog 25 46 := ⟨Try.underlying25⟩
instance : Inf Try.prog 26 (.int .i64 0) 1 8 := Inf.of (by kernel_rfl) rfl
instance : Ta Try.prog 26 false := ⟨Try.isAgg26⟩
instance : Ik Try.prog 26 .i64 := ⟨Try.underlying26⟩
instance : Inf Try.prog 28 .nilFunc 1 8 := Inf.of (by kernel_rfl) rfl
instance : Ta Try.prog 28 false := ⟨Try.isAgg28⟩
instance : Inf Try.prog 29 (.slice none 0 0) 1 24 := Inf.of (by kernel_rfl) rfl
instance : Ta Try.prog 29 false := ⟨Try.isAgg29⟩
instance : Sl Try.prog 29 35 := ⟨Try.underlying29⟩
instance : Inf Try.prog 31 .nilFunc 1 8 := Inf.of (by kernel_rfl) rfl
instance : Ta Try.prog 31 false := ⟨Try.isAgg31⟩
instance : Inf Try.prog 32 .nilFunc 1 8 := Inf.of (by kernel_rfl) rfl
instance : Ta Try.prog 32 false := ⟨Try.isAgg32⟩
instance : Inf Try.prog 33 .nilFunc 1 8 := Inf.of (by kernel_rfl) rfl
instance : Ta Try.prog 33 false := ⟨Try.isAgg33⟩
instance : Inf Try.prog 34 (.agg #[(.int .u8 0), (.int .u8 0), (.slice none 0 0), (.int .u8 0)]) 4 40 := Inf.of (by kernel_rfl) rfl
instance : Ta Try.prog 34 true := ⟨Try.isAgg34⟩
instance : Pl Try.prog 34 [(0, 1), (1, 1), (2, 1), (3, 1)] := ⟨_, Try.underlying34, fun w => by kernel_rfl⟩
instance : Fd Try.prog 34 0 0 5 := ⟨_, _, Try.underlying34, rfl, rfl, rfl⟩
instance : Fd Try.prog 34 1 1 5 := ⟨_, _, Try.underlying34, rfl, rfl, rfl⟩
instance : Fd Try.prog 34 2 2 22 := ⟨_, _, Try.underlying34, rfl, rfl, rfl⟩
instance : Fd Try.prog 34 3 3 5 := ⟨_, _, Try.underlying34, rfl, rfl, rfl⟩
instance : Inf Try.prog 35 (.agg #[(.int .u8 0), (.int .u8 0), (.slice none 0 0), (.int .u8 0)]) 4 40 := Inf.of (by kernel_rfl) rfl
instance : Ta Try.prog 35 true := ⟨Try.isAgg35⟩
instance : Pl Try.prog 35 [(0, 1), (1, 1), (2, 1), (3, 1)] := ⟨_, Try.underlying35, fun w => by kernel_rfl⟩
instance : Fd Try.prog 35 0 0 5 := ⟨_, _, Try.underlying35, rfl, rfl, rfl⟩
instance : Fd Try.prog 35 1 1 5 := ⟨_, _, Try.underlying35, rfl, rfl, rfl⟩
instance : Fd Try.prog 35 2 2 22 := ⟨_, _, Try.underlying35, rfl, rfl, rfl⟩
instance : Fd Try.prog 35 3 3 5 := ⟨_, _, Try.underlying35, rfl, rfl, rfl⟩
instance : Inf Try.prog 36 .nilFunc 1 8 := Inf.of (by kernel_rfl) rfl
instance : Ta Try.prog 36 false := ⟨Try.isAgg36⟩
instance : Inf Try.prog 37 .nilFunc 1 8 := Inf.of (by kernel_rfl) rfl
instance : Ta Try.prog 37 false := ⟨Try.isAgg37⟩
instance : Inf Try.prog 38 .nilFunc 1 8 := Inf.of (by kernel_rfl) rfl
instance : Ta Try.prog 38 false := ⟨Try.isAgg38⟩
instance : Inf Try.prog 40 .nilFunc 1 8 := Inf.of (by kernel_rfl) rfl
instance : Ta Try.prog 40 false := ⟨Try.isAgg40⟩
instance : Inf Try.prog 41 .nilFunc 1 8 := Inf.of (by kernel_rfl) rfl
instance : Ta Try.prog 41 false := ⟨Try.isAgg41⟩
instance : Inf Try.prog 42 .nilFunc 1 8 := Inf.of (by kernel_rfl) rfl
instance : Ta Try.prog 42 false := ⟨Try.isAgg42⟩
instance : Inf Try.prog 43 .nilFunc 1 8 := Inf.of (by kernel_rfl) rfl
instance : Ta Try.prog 43 false := ⟨Try.isAgg43⟩
instance : Inf Try.prog 44 .nilFunc 1 8 := Inf.of (by kernel_rfl) rfl
instance : Ta Try.prog 44 false := ⟨Try.isAgg44⟩
instance : Inf Try.prog 45 .nilFunc 1 8 := Inf.of (by kernel_rfl) rfl
instance : Ta Try.prog 45 false := ⟨Try.isAgg45⟩
instance : Inf Try.prog 46 (.agg #[(.int .u8 0), (.int .u8 0), (.slice none 0 0), (.int .u8 0)]) 4 40 := Inf.of (by kernel_rfl) rfl
instance : Ta Try.prog 46 true := ⟨Try.isAgg46⟩
instance : Pl Try.prog 46 [(0, 1), (1, 1), (2, 1), (3, 1)] := ⟨_, Try.underlying46, fun w => by kernel_rfl⟩
instance : Fd Try.prog 46 0 0 5 := ⟨_, _, Try.underlying46, rfl, rfl, rfl⟩
instance : Fd Try.prog 46 1 1 5 := ⟨_, _, Try.underlying46, rfl, rfl, rfl⟩
instance : Fd Try.prog 46 2 2 22 := ⟨_, _, Try.underlying46, rfl, rfl, rfl⟩
instance : Fd Try.prog 46 3 3 5 := ⟨_, _, Try.underlying46, rfl, rfl, rfl⟩
instance : Inf Try.prog 47 .nilFunc 1 8 := Inf.of (by kernel_rfl) rfl
instance : Ta Try.prog 47 false := ⟨Try.isAgg47⟩
instance : Inf Try.prog 48 .nilFunc 1 8 := Inf.of (by kernel_rfl) rfl
instance : Ta Try.prog 48 false := ⟨Try.isAgg48⟩
instance : Inf Try.prog 49 (.int .u32 0) 1 4 := Inf.of (by kernel_rfl) rfl
instance : Ta Try.prog 49 false := ⟨Try.isAgg49⟩
instance : Ik Try.prog 49 .u32 := ⟨Try.underlying49⟩
instance : Inf Try.prog 50 (.int .u64 0) 1 8 := Inf.of (by kernel_rfl) rfl
instance : Ta Try.prog 50 false := ⟨Try.isAgg50⟩
instance : Ik Try.prog 50 .u64 := ⟨Try.underlying50⟩
instance : Inf Try.prog 51 (.slice none 0 0) 1 24 := Inf.of (by kernel_rfl) rfl
instance : Ta Try.prog 51 false := ⟨Try.isAgg51⟩
instance : Sl Try.prog 51 95 := ⟨Try.underlying51⟩
instance : Inf Try.prog 52 (.agg #[(.int .u32 0), (.int .u64 0), (.int .u32 0), (.int .u32 0), (.int .u32 0), (.slice none 0 0)]) 6 56 := Inf.of (by kernel_rfl) rfl
instance : Ta Try.prog 52 true := ⟨Try.isAgg52⟩
instance : Pl Try.prog 52 [(0, 1), (1, 1), (2, 1), (3, 1), (4, 1), (5, 1)] := ⟨_, Try.underlying52, fun w => by kernel_rfl⟩
instance : Fd Try.prog 52 0 0 49 := ⟨_, _, Try.underlying52, rfl, rfl, rfl⟩
instance : Fd Try.prog 52 1 1 50 := ⟨_, _, Try.underlying52, rfl, rfl, rfl⟩
instance : Fd Try.prog 52 2 2 49 := ⟨_, _, Try.underlying52, rfl, rfl, rfl⟩
instance : Fd Try.prog 52 3 3 49 := ⟨_, _, Try.underlying52, rfl, rfl, rfl⟩
instance : Fd Try.prog 52 4 4 49 := ⟨_, _, Try.underlying52, rfl, rfl, rfl⟩
instance : Fd Try.prog 52 5 5 51 := ⟨_, _, Try.underlying52, rfl, rfl, rfl⟩
instance : Inf Try.prog 53 (.agg #[(.int .u32 0), (.int .u64 0), (.int .u32 0), (.int .u32 0), (.int .u32 0), (.slice none 0 0)]) 6 56 := Inf.of (by kernel_rfl) rfl
instance : Ta Try.prog 53 true := ⟨Try.isAgg53⟩
instance : Pl Try.prog 53 [(0, 1), (1, 1), (2, 1), (3, 1), (4, 1), (5, 1)] := ⟨_, Try.underlying53, fun w => by kernel_rfl⟩
instance : Fd Try.prog 53 0 0 49 := ⟨_, _, Try.underlying53, rfl, rfl, rfl⟩
instance : Fd Try.prog 53 1 1 50 := ⟨_, _, Try.underlying53, rfl, rfl, rfl⟩
instance : Fd Try.prog 53 2 2 49 := ⟨_, _, Try.underlying53, rfl, rfl, rfl⟩
instance : Fd Try.prog 53 3 3 49 := ⟨_, _, Try.underlying53, rfl, rfl, rfl⟩
instance : Fd Try.prog 53 4 4 49 := ⟨_, _, Try.underlying53, rfl, rfl, rfl⟩
instance : Fd Try.prog 53 5 5 51 := ⟨_, _, Try.underlying53, rfl, rfl, rfl⟩
instance : Inf Try.prog 54 (.slice none 0 0) 1 24 := Inf.of (by kernel_rfl) rfl
instance : Ta Try.prog 54 false := ⟨Try.isAgg54⟩
instance : Sl Try.prog 54 97 := ⟨Try.underlying54⟩
instance : Inf Try.prog 55 (.slice none 0 0) 1 24 := Inf.of (by kernel_rfl) rfl
instance : Ta Try.prog 55 false := ⟨Try.isAgg55⟩
instance : Sl Try.prog 55 49 := ⟨Try.underlying55⟩
instance : Inf Try.prog 56 (.agg #[(.slice none 0 0), (.string ⟨#[]⟩)]) 2 40 := Inf.of (by kernel_rfl) rfl
instance : Ta Try.prog 56 true := ⟨Try.isAgg56⟩
instance : Pl Try.prog 56 [(0, 1), (1, 1)] := ⟨_, Try.underlying56, fun w => by kernel_rfl⟩
instance : Fd Try.prog 56 0 0 55 := ⟨_, _, Try.underlying56, rfl, rfl, rfl⟩
instance : Fd Try.prog 56 1 1 9 := ⟨_, _, Try.underlying56, rfl, rfl, rfl⟩
instance : Inf Try.prog 57 (.agg #[(.slice none 0 0), (.string ⟨#[]⟩)]) 2 40 := Inf.of (by kernel_rfl) rfl
instance : Ta Try.prog 57 true := ⟨Try.isAgg57⟩
instance : Pl Try.prog 57 [(0, 1), (1, 1)] := ⟨_, Try.underlying57, fun w => by kernel_rfl⟩
instance : Fd Try.prog 57 0 0 55 := ⟨_, _, Try.underlying57, rfl, rfl, rfl⟩
instance : Fd Try.prog 57 1 1 9 := ⟨_, _, Try.underlying57, rfl, rfl, rfl⟩
instance : Inf Try.prog 58 .nilFunc 1 8 := Inf.of (by kernel_rfl) rfl
instance : Ta Try.prog 58 false := ⟨Try.isAgg58⟩
instance : Inf Try.prog 59 (.agg #[(.int .u32 0), (.slice none 0 0)]) 2 32 := Inf.of (by kernel_rfl) rfl
instance : Ta Try.prog 59 true := ⟨Try.isAgg59⟩
instance : Pl Try.prog 59 [(0, 1), (1, 1)] := ⟨_, Try.underlying59, fun w => by kernel_rfl⟩
instance : Fd Try.prog 59 0 0 49 := ⟨_, _, Try.underlying59, rfl, rfl, rfl⟩
instance : Fd Try.prog 59 1 1 51 := ⟨_, _, Try.underlying59, rfl, rfl, rfl⟩
instance : Inf Try.prog 60 (.agg #[(.int .u32 0), (.slice none 0 0)]) 2 32 := Inf.of (by kernel_rfl) rfl
instance : Ta Try.prog 60 true := ⟨Try.isAgg60⟩
instance : Pl Try.prog 60 [(0, 1), (1, 1)] := ⟨_, Try.underlying60, fun w => by kernel_rfl⟩
instance : Fd Try.prog 60 0 0 49 := ⟨_, _, Try.underlying60, rfl, rfl, rfl⟩
instance : Fd Try.prog 60 1 1 51 := ⟨_, _, Try.underlying60, rfl, rfl, rfl⟩
instance : Inf Try.prog 62 .nilFunc 1 8 := Inf.of (by kernel_rfl) rfl
instance : Ta Try.prog 62 false := ⟨Try.isAgg62⟩
instance : Inf Try.prog 63 .nilFunc 1 8 := Inf.of (by kernel_rfl) rfl
instance : Ta Try.prog 63 false := ⟨Try.isAgg63⟩
instance : Inf Try.prog 65 .nilFunc 1 8 := Inf.of (by kernel_rfl) rfl
instance : Ta Try.prog 65 false := ⟨Try.isAgg65⟩
instance : Inf Try.prog 66 (.slice none 0 0) 1 24 := Inf.of (by kernel_rfl) rfl
instance : Ta Try.prog 66 false := ⟨Try.isAgg66⟩
instance : Sl Try.prog 66 132 := ⟨Try.underlying66⟩
instance : Inf Try.prog 67 (.agg #[(.int .u32 0), (.int .u64 0), (.int .u32 0), (.int .u32 0), (.int .u32 0), (.slice none 0 0)]) 6 56 := Inf.of (by kernel_rfl) rfl
instance : Ta Try.prog 67 true := ⟨Try.isAgg67⟩
instance : Pl Try.prog 67 [(0, 1), (1, 1), (2, 1), (3, 1), (4, 1), (5, 1)] := ⟨_, Try.underlying67, fun w => by kernel_rfl⟩
instance : Fd Try.prog 67 0 0 49 := ⟨_, _, Try.underlying67, rfl, rfl, rfl⟩
instance : Fd Try.prog 67 1 1 50 := ⟨_, _, Try.underlying67, rfl, rfl, rfl⟩
instance : Fd Try.prog 67 2 2 49 := ⟨_, _, Try.underlying67, rfl, rfl, rfl⟩
instance : Fd Try.prog 67 3 3 49 := ⟨_, _, Try.underlying67, rfl, rfl, rfl⟩
instance : Fd Try.prog 67 4 4 49 := ⟨_, _, Try.underlying67, rfl, rfl, rfl⟩
instance : Fd Try.prog 67 5 5 66 := ⟨_, _, Try.underlying67, rfl, rfl, rfl⟩
instance : Inf Try.prog 68 (.agg #[(.int .u32 0), (.int .u64 0), (.int .u32 0), (.int .u32 0), (.int .u32 0), (.slice none 0 0)]) 6 56 := Inf.of (by kernel_rfl) rfl
instance : Ta Try.prog 68 true := ⟨Try.isAgg68⟩
instance : Pl Try.prog 68 [(0, 1), (1, 1), (2, 1), (3, 1), (4, 1), (5, 1)] := ⟨_, Try.underlying68, fun w => by kernel_rfl⟩
instance : Fd Try.prog 68 0 0 49 := ⟨_, _, Try.underlying68, rfl, rfl, rfl⟩
instance : Fd Try.prog 68 1 1 50 := ⟨_, _, Try.underlying68, rfl, rfl, rfl⟩
instance : Fd Try.prog 68 2 2 49 := ⟨_, _, Try.underlying68, rfl, rfl, rfl⟩
instance : Fd Try.prog 68 3 3 49 := ⟨_, _, Try.underlying68, rfl, rfl, rfl⟩
instance : Fd Try.prog 68 4 4 49 := ⟨_, _, Try.underlying68, rfl, rfl, rfl⟩
instance : Fd Try.prog 68 5 5 66 := ⟨_, _, Try.underlying68, rfl, rfl, rfl⟩
instance : Inf Try.prog 69 .nilFunc 1 8 := Inf.of (by kernel_rfl) rfl
instance : Ta Try.prog 69 false := ⟨Try.isAgg69⟩
instance : Inf Try.prog 70 .nilFunc 1 8 := Inf.of (by kernel_rfl) rfl
instance : Ta Try.prog 70 false := ⟨Try.isAgg70⟩
instance : Inf Try.prog 71 (.agg #[(.int .u32 0), (.slice none 0 0)]) 2 32 := Inf.of (by kernel_rfl) rfl
instance : Ta Try.prog 71 true := ⟨Try.isAgg71⟩
instance : Pl Try.prog 71 [(0, 1), (1, 1)] := ⟨_, Try.underlying71, fun w => by kernel_rfl⟩
instance : Fd Try.prog 71 0 0 49 := ⟨_, _, Try.underlying71, rfl, rfl, rfl⟩
instance : Fd Try.prog 71 1 1 66 := ⟨_, _, Try.underlying71, rfl, rfl, rfl⟩
instance : Inf Try.prog 72 (.agg #[(.int .u32 0), (.slice none 0 0)]) 2 32 := Inf.of (by kernel_rfl) rfl
instance : Ta Try.prog 72 true := ⟨Try.isAgg72⟩
instance : Pl Try.prog 72 [(0, 1), (1, 1)] := ⟨_, Try.underlying72, fun w => by kernel_rfl⟩
instance : Fd Try.prog 72 0 0 49 := ⟨_, _, Try.underlying72, rfl, rfl, rfl⟩
instance : Fd Try.prog 72 1 1 66 := ⟨_, _, Try.underlying72, rfl, rfl, rfl⟩
instance : Inf Try.prog 73 .nilFunc 1 8 := Inf.of (by kernel_rfl) rfl
instance : Ta Try.prog 73 false := ⟨Try.isAgg73⟩
instance : Inf Try.prog 74 .nilFunc 1 8 := Inf.of (by kernel_rfl) rfl
instance : Ta Try.prog 74 false := ⟨Try.isAgg74⟩
instance : Inf Try.prog 75 (.slice none 0 0) 1 24 := Inf.of (by kernel_rfl) rfl
instance : Ta Try.prog 75 false := ⟨Try.isAgg75⟩
instance : Sl Try.prog 75 113 := ⟨Try.underlying75⟩
instance : Inf Try.prog 76 .nilFunc 1 8 := Inf.of (by kernel_rfl) rfl
instance : Ta Try.prog 76 false := ⟨Try.isAgg76⟩
instance : Inf Try.prog 77 .nilFunc 1 8 := Inf.of (by kernel_rfl) rfl
instance : Ta Try.prog 77 false := ⟨Try.isAgg77⟩
instance : Inf Try.prog 78 (.agg #[(.slice none 0 0), (.string ⟨#[]⟩)]) 2 40 := Inf.of (by kernel_rfl) rfl
instance : Ta Try.prog 78 true := ⟨Try.isAgg78⟩
instance : Pl Try.prog 78 [(0, 1), (1, 1)] := ⟨_, Try.underlying78, fun w => by kernel_rfl⟩
instance : Fd Try.prog 78 0 0 55 := ⟨_, _, Try.underlying78, rfl, rfl, rfl⟩
instance : Fd Try.prog 78 1 1 9 := ⟨_, _, Try.underlying78, rfl, rfl, rfl⟩
instance : Inf Try.prog 79 .nilFunc 1 8 := Inf.of (by kernel_rfl) rfl
instance : Ta Try.prog 79 false := ⟨Try.isAgg79⟩
instance : Inf Try.prog 80 .nilFunc 1 8 := Inf.of (by kernel_rfl) rfl
instance : Ta Try.prog 80 false := ⟨Try.isAgg80⟩
instance : Inf Try.prog 82 .nilFunc 1 8 := Inf.of (by kernel_rfl) rfl
instance : Ta Try.prog 82 false := ⟨Try.isAgg82⟩
instance : Inf Try.prog 84 .nilFunc 1 8 := Inf.of (by kernel_rfl) rfl
instance : Ta Try.prog 84 false := ⟨Try.isAgg84⟩
instance : Inf Try.prog 85 .nilFunc 1 8 := Inf.of (by kernel_rfl) rfl
instance : Ta Try.prog 85 false := ⟨Try.isAgg85⟩
instance : Inf Try.prog 86 .nilFunc 1 8 := Inf.of (by kernel_rfl) rfl
instance : Ta Try.prog 86 false := ⟨Try.isAgg86⟩
instance : Inf Try.prog 88 .nilFunc 1 8 := Inf.of (by kernel_rfl) rfl
instance : Ta Try.prog 88 false := ⟨Try.isAgg88⟩
instance : Inf Try.prog 89 .nilFunc 1 8 := Inf.of (by kernel_rfl) rfl
instance : Ta Try.prog 89 false := ⟨Try.isAgg89⟩
instance : Inf Try.prog 91 .nilFunc 1 8 := Inf.of (by kernel_rfl) rfl
instance : Ta Try.prog 91 false := ⟨Try.isAgg91⟩
instance : Inf Try.prog 92 .nilFunc 1 8 := Inf.of (by kernel_rfl) rfl
instance : Ta Try.prog 92 false := ⟨Try.isAgg92⟩
instance : Inf Try.prog 93 (.int .u64 0) 1 8 := Inf.of (by kernel_rfl) rfl
instance : Ta Try.prog 93 false := ⟨Try.isAgg93⟩
instance : Ik Try.prog 93 .u64 := ⟨Try.underlying93⟩
instance : Inf Try.prog 94 (.agg #[(.int .u32 0), (.int .u8 0), (.int .i32 0), (.int .u32 0), (.int .u32 0), (.int .u32 0), (.int .u32 0)]) 7 28 := Inf.of (by kernel_rfl) rfl
instance : Ta Try.prog 94 true := ⟨Try.isAgg94⟩
instance : Pl Try.prog 94 [(0, 1), (1, 1), (2, 1), (3, 1), (4, 1), (5, 1), (6, 1)] := ⟨_, Try.underlying94, fun w => by kernel_rfl⟩
instance : Fd Try.prog 94 0 0 49 := ⟨_, _, Try.underlying94, rfl, rfl, rfl⟩
instance : Fd Try.prog 94 1 1 5 := ⟨_, _, Try.underlying94, rfl, rfl, rfl⟩
instance : Fd Try.prog 94 2 2 21 := ⟨_, _, Try.underlying94, rfl, rfl, rfl⟩
instance : Fd Try.prog 94 3 3 49 := ⟨_, _, Try.underlying94, rfl, rfl, rfl⟩
instance : Fd Try.prog 94 4 4 49 := ⟨_, _, Try.underlying94, rfl, rfl, rfl⟩
instance : Fd Try.prog 94 5 5 49 := ⟨_, _, Try.underlying94, rfl, rfl, rfl⟩
instance : Fd Try.prog 94 6 6 49 := ⟨_, _, Try.underlying94, rfl, rfl, rfl⟩
instance : Inf Try.prog 95 (.agg #[(.int .u32 0), (.int .u8 0), (.int .i32 0), (.int .u32 0), (.int .u32 0), (.int .u32 0), (.int .u32 0)]) 7 28 := Inf.of (by kernel_rfl) rfl
instance : Ta Try.prog 95 true := ⟨Try.isAgg95⟩
instance : Pl Try.prog 95 [(0, 1), (1, 1), (2, 1), (3, 1), (4, 1), (5, 1), (6, 1)] := ⟨_, Try.underlying95, fun w => by kernel_rfl⟩
instance : Fd Try.prog 95 0 0 49 := ⟨_, _, Try.underlying95, rfl, rfl, rfl⟩
instance : Fd Try.prog 95 1 1 5 := ⟨_, _, Try.underlying95, rfl, rfl, rfl⟩
instance : Fd Try.prog 95 2 2 21 := ⟨_, _, Try.underlying95, rfl, rfl, rfl⟩
instance : Fd Try.prog 95 3 3 49 := ⟨_, _, Try.underlying95, rfl, rfl, rfl⟩
instance : Fd Try.prog 95 4 4 49 := ⟨_, _, Try.underlying95, rfl, rfl, rfl⟩
instance : Fd Try.prog 95 5 5 49 := ⟨_, _, Try.underlying95, rfl, rfl, rfl⟩
instance : Fd Try.prog 95 6 6 49 := ⟨_, _, Try.underlying95, rfl, rfl, rfl⟩
instance : Inf Try.prog 96 (.agg #[(.int .u32 0), (.string ⟨#[]⟩)]) 2 24 := Inf.of (by kernel_rfl) rfl
instance : Ta Try.prog 96 true := ⟨Try.isAgg96⟩
instance : Pl Try.prog 96 [(0, 1), (1, 1)] := ⟨_, Try.underlying96, fun w => by kernel_rfl⟩
instance : Fd Try.prog 96 0 0 49 := ⟨_, _, Try.underlying96, rfl, rfl, rfl⟩
instance : Fd Try.prog 96 1 1 9 := ⟨_, _, Try.underlying96, rfl, rfl, rfl⟩
instance : Inf Try.prog 97 (.agg #[(.int .u32 0), (.string ⟨#[]⟩)]) 2 24 := Inf.of (by kernel_rfl) rfl
instance : Ta Try.prog 97 true := ⟨Try.isAgg97⟩
instance : Pl Try.prog 97 [(0, 1), (1, 1)] := ⟨_, Try.underlying97, fun w => by kernel_rfl⟩
instance : Fd Try.prog 97 0 0 49 := ⟨_, _, Try.underlying97, rfl, rfl, rfl⟩
instance : Fd Try.prog 97 1 1 9 := ⟨_, _, Try.underlying97, rfl, rfl, rfl⟩
instance : Inf Try.prog 98 .nilFunc 1 8 := Inf.of (by kernel_rfl) rfl
instance : Ta Try.prog 98 false := ⟨Try.isAgg98⟩
instance : Inf Try.prog 100 .nilFunc 1 8 := Inf.of (by kernel_rfl) rfl
instance : Ta Try.prog 100 false := ⟨Try.isAgg100⟩
instance : Inf Try.prog 101 .nilFunc 1 8 := Inf.of (by kernel_rfl) rfl
instance : Ta Try.prog 101 false := ⟨Try.isAgg101⟩
instance : Inf Try.prog 102 .nilFunc 1 8 := Inf.of (by kernel_rfl) rfl
instance : Ta Try.prog 102 false := ⟨Try.isAgg102⟩
instance : Inf Try.prog 103 .nilFunc 1 8 := Inf.of (by kernel_rfl) rfl
instance : Ta Try.prog 103 false := ⟨Try.isAgg103⟩
instance : Inf Try.prog 104 .nilFunc 1 8 := Inf.of (by kernel_rfl) rfl
instance : Ta Try.prog 104 false := ⟨Try.isAgg104⟩
instance : Inf Try.prog 105 .nilFunc 1 8 := Inf.of (by kernel_rfl) rfl
instance : Ta Try.prog 105 false := ⟨Try.isAgg105⟩
instance : Inf Try.prog 107 .nilFunc 1 8 := Inf.of (by kernel_rfl) rfl
instance : Ta Try.prog 107 false := ⟨Try.isAgg107⟩
instance : Inf Try.prog 108 .nilFunc 1 8 := Inf.of (by kernel_rfl) rfl
instance : Ta Try.prog 108 false := ⟨Try.isAgg108⟩
instance : Inf Try.prog 109 .nilFunc 1 8 := Inf.of (by kernel_rfl) rfl
instance : Ta Try.prog 109 false := ⟨Try.isAgg109⟩
instance : Inf Try.prog 110 .nilFunc 1 8 := Inf.of (by kernel_rfl) rfl
instance : Ta Try.prog 110 false := ⟨Try.isAgg110⟩
instance : Inf Try.prog 111 .nilFunc 1 8 := Inf.of (by kernel_rfl) rfl
instance : Ta Try.prog 111 false := ⟨Try.isAgg111⟩
instance : Inf Try.prog 112 .nilFunc 1 8 := Inf.of (by kernel_rfl) rfl
instance : Ta Try.prog 112 false := ⟨Try.isAgg112⟩
instance : Inf Try.prog 113 (.agg #[(.int .u32 0), (.string ⟨#[]⟩)]) 2 24 := Inf.of (by kernel_rfl) rfl
instance : Ta Try.prog 113 true := ⟨Try.isAgg113⟩
instance : Pl Try.prog 113 [(0, 1), (1, 1)] := ⟨_, Try.underlying113, fun w => by kernel_rfl⟩
instance : Fd Try.prog 113 0 0 49 := ⟨_, _, Try.underlying113, rfl, rfl, rfl⟩
instance : Fd Try.prog 113 1 1 9 := ⟨_, _, Try.underlying113, rfl, rfl, rfl⟩
instance : Inf Try.prog 114 (.pointer none) 1 8 := Inf.of (by kernel_rfl) rfl
instance : Ta Try.prog 114 false := ⟨Try.isAgg114⟩
instance : Pn Try.prog 114 116 := ⟨Try.underlying114⟩
instance : Inf Try.prog 115 (.agg #[(.slice none 0 0), (.int .i64 0), (.bool false)]) 3 40 := Inf.of (by kernel_rfl) rfl
instance : Ta Try.prog 115 true := ⟨Try.isAgg115⟩
instance : Pl Try.prog 115 [(0, 1), (1, 1), (2, 1)] := ⟨_, Try.underlying115, fun w => by kernel_rfl⟩
instance : Fd Try.prog 115 0 0 22 := ⟨_, _, Try.underlying115, rfl, rfl, rfl⟩
instance : Fd Try.prog 115 1 1 3 := ⟨_, _, Try.underlying115, rfl, rfl, rfl⟩
instance : Fd Try.prog 115 2 2 4 := ⟨_, _, Try.underlying115, rfl, rfl, rfl⟩
instance : Inf Try.prog 116 (.agg #[(.slice none 0 0), (.int .i64 0), (.bool false)]) 3 40 := Inf.of (by kernel_rfl) rfl
instance : Ta Try.prog 116 true := ⟨Try.isAgg116⟩
instance : Pl Try.prog 116 [(0, 1), (1, 1), (2, 1)] := ⟨_, Try.underlying116, fun w => by kernel_rfl⟩
instance : Fd Try.prog 116 0 0 22 := ⟨_, _, Try.underlying116, rfl, rfl, rfl⟩
instance : Fd Try.prog 116 1 1 3 := ⟨_, _, Try.underlying116, rfl, rfl, rfl⟩
instance : Fd Try.prog 116 2 2 4 := ⟨_, _, Try.underlying116, rfl, rfl, rfl⟩
instance : Inf Try.prog 117 .nilFunc 1 8 := Inf.of (by kernel_rfl) rfl
instance : Ta Try.prog 117 false := ⟨Try.isAgg117⟩
instance : Inf Try.prog 118 .nilFunc 1 8 := Inf.of (by kernel_rfl) rfl
instance : Ta Try.prog 118 false := ⟨Try.isAgg118⟩
instance : Inf Try.prog 119 .nilFunc 1 8 := Inf.of (by kernel_rfl) rfl
instance : Ta Try.prog 119 false := ⟨Try.isAgg119⟩
instance : Inf Try.prog 120 .nilFunc 1 8 := Inf.of (by kernel_rfl) rfl
instance : Ta Try.prog 120 false := ⟨Try.isAgg120⟩
instance : Inf Try.prog 121 .nilFunc 1 8 := Inf.of (by kernel_rfl) rfl
instance : Ta Try.prog 121 false := ⟨Try.isAgg121⟩
instance : Inf Try.prog 122 .nilFunc 1 8 := Inf.of (by kernel_rfl) rfl
instance : Ta Try.prog 122 false := ⟨Try.isAgg122⟩
instance : Inf Try.prog 124 .nilFunc 1 8 := Inf.of (by kernel_rfl) rfl
instance : Ta Try.prog 124 false := ⟨Try.isAgg124⟩
instance : Inf Try.prog 126 .nilFunc 1 8 := Inf.of (by kernel_rfl) rfl
instance : Ta Try.prog 126 false := ⟨Try.isAgg126⟩
instance : Inf Try.prog 128 .nilFunc 1 8 := Inf.of (by kernel_rfl) rfl
instance : Ta Try.prog 128 false := ⟨Try.isAgg128⟩
instance : Inf Try.prog 130 .nilFunc 1 8 := Inf.of (by kernel_rfl) rfl
instance : Ta Try.prog 130 false := ⟨Try.isAgg130⟩
instance : Inf Try.prog 131 (.agg #[(.int .u8 0), (.int .u8 0), (.int .u8 0), (.int .u8 0)]) 4 4 := Inf.of (by kernel_rfl) rfl
instance : Ta Try.prog 131 true := ⟨Try.isAgg131⟩
instance : Ar Try.prog 131 4 5 := ⟨Try.underlying131⟩
instance : Inf Try.prog 132 (.agg #[(.int .u32 0), (.int .u8 0), (.int .i32 0), (.int .u32 0), (.int .u32 0), (.int .u32 0), (.int .u32 0)]) 7 28 := Inf.of (by kernel_rfl) rfl
instance : Ta Try.prog 132 true := ⟨Try.isAgg132⟩
instance : Pl Try.prog 132 [(0, 1), (1, 1), (2, 1), (3, 1), (4, 1), (5, 1), (6, 1)] := ⟨_, Try.underlying132, fun w => by kernel_rfl⟩
instance : Fd Try.prog 132 0 0 49 := ⟨_, _, Try.underlying132, rfl, rfl, rfl⟩
instance : Fd Try.prog 132 1 1 5 := ⟨_, _, Try.underlying132, rfl, rfl, rfl⟩
instance : Fd Try.prog 132 2 2 21 := ⟨_, _, Try.underlying132, rfl, rfl, rfl⟩
instance : Fd Try.prog 132 3 3 49 := ⟨_, _, Try.underlying132, rfl, rfl, rfl⟩
instance : Fd Try.prog 132 4 4 49 := ⟨_, _, Try.underlying132, rfl, rfl, rfl⟩
instance : Fd Try.prog 132 5 5 49 := ⟨_, _, Try.underlying132, rfl, rfl, rfl⟩
instance : Fd Try.prog 132 6 6 49 := ⟨_, _, Try.underlying132, rfl, rfl, rfl⟩
instance : Inf Try.prog 133 .nilFunc 1 8 := Inf.of (by kernel_rfl) rfl
instance : Ta Try.prog 133 false := ⟨Try.isAgg133⟩
instance : Inf Try.prog 134 .nilFunc 1 8 := Inf.of (by kernel_rfl) rfl
instance : Ta Try.prog 134 false := ⟨Try.isAgg134⟩
instance : Inf Try.prog 136 .nilFunc 1 8 := Inf.of (by kernel_rfl) rfl
instance : Ta Try.prog 136 false := ⟨Try.isAgg136⟩
instance : Inf Try.prog 138 .nilFunc 1 8 := Inf.of (by kernel_rfl) rfl
instance : Ta Try.prog 138 false := ⟨Try.isAgg138⟩
instance : Inf Try.prog 139 .nilFunc 1 8 := Inf.of (by kernel_rfl) rfl
instance : Ta Try.prog 139 false := ⟨Try.isAgg139⟩
instance : Inf Try.prog 140 (.agg #[(.pointer none), (.pointer none), (.pointer none), (.string ⟨#[]⟩)]) 4 40 := Inf.of (by kernel_rfl) rfl
instance : Ta Try.prog 140 true := ⟨Try.isAgg140⟩
instance : Pl Try.prog 140 [(0, 1), (1, 1), (2, 1), (3, 1)] := ⟨_, Try.underlying140, fun w => by kernel_rfl⟩
instance : Fd Try.prog 140 0 0 17 := ⟨_, _, Try.underlying140, rfl, rfl, rfl⟩
instance : Fd Try.prog 140 1 1 17 := ⟨_, _, Try.underlying140, rfl, rfl, rfl⟩
instance : Fd Try.prog 140 2 2 17 := ⟨_, _, Try.underlying140, rfl, rfl, rfl⟩
instance : Fd Try.prog 140 3 3 9 := ⟨_, _, Try.underlying140, rfl, rfl, rfl⟩
instance : Inf Try.prog 141 (.agg #[(.pointer none), (.pointer none), (.pointer none), (.string ⟨#[]⟩)]) 4 40 := Inf.of (by kernel_rfl) rfl
instance : Ta Try.prog 141 true := ⟨Try.isAgg141⟩
instance : Pl Try.prog 141 [(0, 1), (1, 1), (2, 1), (3, 1)] := ⟨_, Try.underlying141, fun w => by kernel_rfl⟩
instance : Fd Try.prog 141 0 0 17 := ⟨_, _, Try.underlying141, rfl, rfl, rfl⟩
instance : Fd Try.prog 141 1 1 17 := ⟨_, _, Try.underlying141, rfl, rfl, rfl⟩
instance : Fd Try.prog 141 2 2 17 := ⟨_, _, Try.underlying141, rfl, rfl, rfl⟩
instance : Fd Try.prog 141 3 3 9 := ⟨_, _, Try.underlying141, rfl, rfl, rfl⟩
instance : Inf Try.prog 142 (.agg #[]) 0 0 := Inf.of (by kernel_rfl) rfl
instance : Ta Try.prog 142 true := ⟨Try.isAgg142⟩
instance : Ar Try.prog 142 0 16 := ⟨Try.underlying142⟩
instance : Inf Try.prog 143 (.agg #[]) 0 0 := Inf.of (by kernel_rfl) rfl
instance : Ta Try.prog 143 true := ⟨Try.isAgg143⟩
instance : Pl Try.prog 143 [(0, 0)] := ⟨_, Try.underlying143, fun w => by kernel_rfl⟩
instance : Fd Try.prog 143 0 0 142 := ⟨_, _, Try.underlying143, rfl, rfl, rfl⟩
instance : Inf Try.prog 144 (.agg #[]) 0 0 := Inf.of (by kernel_rfl) rfl
instance : Ta Try.prog 144 true := ⟨Try.isAgg144⟩
instance : Pl Try.prog 144 [(0, 0)] := ⟨_, Try.underlying144, fun w => by kernel_rfl⟩
instance : Fd Try.prog 144 0 0 142 := ⟨_, _, Try.underlying144, rfl, rfl, rfl⟩
instance : Inf Try.prog 145 (.int .u8 0) 1 1 := Inf.of (by kernel_rfl) rfl
instance : Ta Try.prog 145 false := ⟨Try.isAgg145⟩
instance : Ik Try.prog 145 .u8 := ⟨Try.underlying145⟩
instance : Inf Try.prog 146 (.int .u8 0) 1 1 := Inf.of (by kernel_rfl) rfl
instance : Ta Try.prog 146 false := ⟨Try.isAgg146⟩
instance : Ik Try.prog 146 .u8 := ⟨Try.underlying146⟩
instance : Inf Try.prog 147 .nilFunc 1 8 := Inf.of (by kernel_rfl) rfl
instance : Ta Try.prog 147 false := ⟨Try.isAgg147⟩
instance : Inf Try.prog 148 (.pointer none) 1 8 := Inf.of (by kernel_rfl) rfl
instance : Ta Try.prog 148 false := ⟨Try.isAgg148⟩
instance : Pn Try.prog 148 5 := ⟨Try.underlying148⟩
instance : Inf Try.prog 149 (.int .i32 0) 1 4 := Inf.of (by kernel_rfl) rfl
instance : Ta Try.prog 149 false := ⟨Try.isAgg149⟩
instance : Ik Try.prog 149 .i32 := ⟨Try.underlying149⟩
instance : Inf Try.prog 150 (.int .i32 0) 1 4 := Inf.of (by kernel_rfl) rfl
instance : Ta Try.prog 150 false := ⟨Try.isAgg150⟩
instance : Ik Try.prog 150 .i32 := ⟨Try.underlying150⟩
instance : Inf Try.prog 151 (.agg #[(.int .u64 0), (.int .u64 0), (.int .u32 0), (.int .u8 0), (.int .u8 0), (.int .u8 0), (.int .u8 0), .nilFunc, (.pointer none), (.int .i32 0), (.int .i32 0)]) 11 48 := Inf.of (by kernel_rfl) rfl
instance : Ta Try.prog 151 true := ⟨Try.isAgg151⟩
instance : Pl Try.prog 151 [(0, 1), (1, 1), (2, 1), (3, 1), (4, 1), (5, 1), (6, 1), (7, 1), (8, 1), (9, 1), (10, 1)] := ⟨_, Try.underlying151, fun w => by kernel_rfl⟩
instance : Fd Try.prog 151 0 0 12 := ⟨_, _, Try.underlying151, rfl, rfl, rfl⟩
instance : Fd Try.prog 151 1 1 12 := ⟨_, _, Try.underlying151, rfl, rfl, rfl⟩
instance : Fd Try.prog 151 2 2 49 := ⟨_, _, Try.underlying151, rfl, rfl, rfl⟩
instance : Fd Try.prog 151 3 3 145 := ⟨_, _, Try.underlying151, rfl, rfl, rfl⟩
instance : Fd Try.prog 151 4 4 5 := ⟨_, _, Try.underlying151, rfl, rfl, rfl⟩
instance : Fd Try.prog 151 5 5 5 := ⟨_, _, Try.underlying151, rfl, rfl, rfl⟩
instance : Fd Try.prog 151 6 6 146 := ⟨_, _, Try.underlying151, rfl, rfl, rfl⟩
instance : Fd Try.prog 151 7 7 147 := ⟨_, _, Try.underlying151, rfl, rfl, rfl⟩
instance : Fd Try.prog 151 8 8 148 := ⟨_, _, Try.underlying151, rfl, rfl, rfl⟩
instance : Fd Try.prog 151 9 9 149 := ⟨_, _, Try.underlying151, rfl, rfl, rfl⟩
instance : Fd Try.prog 151 10 10 150 := ⟨_, _, Try.underlying151, rfl, rfl, rfl⟩
instance : Inf Try.prog 152 (.agg #[(.int .u64 0), (.int .u64 0), (.int .u32 0), (.int .u8 0), (.int .u8 0), (.int .u8 0), (.int .u8 0), .nilFunc, (.pointer none), (.int .i32 0), (.int .i32 0)]) 11 48 := Inf.of (by kernel_rfl) rfl
instance : Ta Try.prog 152 true := ⟨Try.isAgg152⟩
instance : Pl Try.prog 152 [(0, 1), (1, 1), (2, 1), (3, 1), (4, 1), (5, 1), (6, 1), (7, 1), (8, 1), (9, 1), (10, 1)] := ⟨_, Try.underlying152, fun w => by kernel_rfl⟩
instance : Fd Try.prog 152 0 0 12 := ⟨_, _, Try.underlying152, rfl, rfl, rfl⟩
instance : Fd Try.prog 152 1 1 12 := ⟨_, _, Try.underlying152, rfl, rfl, rfl⟩
instance : Fd Try.prog 152 2 2 49 := ⟨_, _, Try.underlying152, rfl, rfl, rfl⟩
instance : Fd Try.prog 152 3 3 145 := ⟨_, _, Try.underlying152, rfl, rfl, rfl⟩
instance : Fd Try.prog 152 4 4 5 := ⟨_, _, Try.underlying152, rfl, rfl, rfl⟩
instance : Fd Try.prog 152 5 5 5 := ⟨_, _, Try.underlying152, rfl, rfl, rfl⟩
instance : Fd Try.prog 152 6 6 146 := ⟨_, _, Try.underlying152, rfl, rfl, rfl⟩
instance : Fd Try.prog 152 7 7 147 := ⟨_, _, Try.underlying152, rfl, rfl, rfl⟩
instance : Fd Try.prog 152 8 8 148 := ⟨_, _, Try.underlying152, rfl, rfl, rfl⟩
instance : Fd Try.prog 152 9 9 149 := ⟨_, _, Try.underlying152, rfl, rfl, rfl⟩
instance : Fd Try.prog 152 10 10 150 := ⟨_, _, Try.underlying152, rfl, rfl, rfl⟩
instance : Inf Try.prog 153 (.pointer none) 1 8 := Inf.of (by kernel_rfl) rfl
instance : Ta Try.prog 153 false := ⟨Try.isAgg153⟩
instance : Cf Try.prog 2 := ⟨Try.call2⟩
instance : Cf Try.prog 3 := ⟨Try.call3⟩
instance : Cf Try.prog 4 := ⟨Try.call4⟩
instance : Cf Try.prog 5 := ⟨Try.call5⟩
instance : Cf Try.prog 6 := ⟨Try.call6⟩
instance : Cf Try.prog 7 := ⟨Try.call7⟩
instance : Cf Try.prog 8 := ⟨Try.call8⟩
instance : Cf Try.prog 9 := ⟨Try.call9⟩
instance : Cf Try.prog 10 := ⟨Try.call10⟩
instance : Cf Try.prog 11 := ⟨Try.call11⟩
instance : Cf Try.prog 12 := ⟨Try.call12⟩
instance : Cf Try.prog 13 := ⟨Try.call13⟩
instance : Cf Try.prog 14 := ⟨Try.call14⟩
instance : Cf Try.prog 15 := ⟨Try.call15⟩
instance : Cf Try.prog 16 := ⟨Try.call16⟩
instance : Cf Try.prog 17 := ⟨Try.call17⟩
instance : Cf Try.prog 18 := ⟨Try.call18⟩
instance : Cf Try.prog 19 := ⟨Try.call19⟩
instance : Cf Try.prog 20 := ⟨Try.call20⟩
instance : Cf Try.prog 21 := ⟨Try.call21⟩
instance : Cf Try.prog 22 := ⟨Try.call22⟩
instance : Cf Try.prog 23 := ⟨Try.call23⟩
instance : Cf Try.prog 24 := ⟨Try.call24⟩
instance : Cf Try.prog 25 := ⟨Try.call25⟩
instance : Cf Try.prog 26 := ⟨Try.call26⟩
instance : Cf Try.prog 27 := ⟨Try.call27⟩
instance : Cf Try.prog 28 := ⟨Try.call28⟩
instance : Cf Try.prog 29 := ⟨Try.call29⟩
instance : Cf Try.prog 30 := ⟨Try.call30⟩
instance : Cf Try.prog 31 := ⟨Try.call31⟩
instance : Cf Try.prog 32 := ⟨Try.call32⟩
instance : Cf Try.prog 33 := ⟨Try.call33⟩
instance : Cf Try.prog 34 := ⟨Try.call34⟩
instance : Cf Try.prog 35 := ⟨Try.call35⟩
instance : Cf Try.prog 36 := ⟨Try.call36⟩
instance : Cf Try.prog 37 := ⟨Try.call37⟩
instance : Cf Try.prog 38 := ⟨Try.call38⟩
instance : Cf Try.prog 39 := ⟨Try.call39⟩
instance : Cf Try.prog 40 := ⟨Try.call40⟩
instance : Cf Try.prog 41 := ⟨Try.call41⟩
instance : Cf Try.prog 42 := ⟨Try.call42⟩
instance : Cf Try.prog 43 := ⟨Try.call43⟩
instance : Cf Try.prog 44 := ⟨Try.call44⟩
instance : Cf Try.prog 45 := ⟨Try.call45⟩
instance : Cf Try.prog 46 := ⟨Try.call46⟩
instance : Cf Try.prog 47 := ⟨Try.call47⟩
instance : Cf Try.prog 48 := ⟨Try.call48⟩
instance : Cf Try.prog 49 := ⟨Try.call49⟩
instance : Cf Try.prog 50 := ⟨Try.call50⟩
instance : Cf Try.prog 51 := ⟨Try.call51⟩
instance : Cf Try.prog 52 := ⟨Try.call52⟩
instance : Cf Try.prog 53 := ⟨Try.call53⟩
instance : Cf Try.prog 54 := ⟨Try.call54⟩
instance : Cf Try.prog 55 := ⟨Try.call55⟩
instance : Cf Try.prog 56 := ⟨Try.call56⟩
instance : Cf Try.prog 57 := ⟨Try.call57⟩
instance : Cf Try.prog 58 := ⟨Try.call58⟩
instance : Cf Try.prog 59 := ⟨Try.call59⟩
instance : Cf Try.prog 60 := ⟨Try.call60⟩
instance : Cf Try.prog 61 := ⟨Try.call61⟩
instance : Cf Try.prog 62 := ⟨Try.call62⟩
instance : Cf Try.prog 63 := ⟨Try.call63⟩
instance : Cf Try.prog 64 := ⟨Try.call64⟩
instance : Cf Try.prog 65 := ⟨Try.call65⟩
instance : Cf Try.prog 66 := ⟨Try.call66⟩
instance : Cf Try.prog 67 := ⟨Try.call67⟩
instance : Cf Try.prog 68 := ⟨Try.call68⟩
instance : Cf Try.prog 69 := ⟨Try.call69⟩
instance : Cf Try.prog 70 := ⟨Try.call70⟩
instance : Cf Try.prog 71 := ⟨Try.call71⟩
instance : Cf Try.prog 72 := ⟨Try.call72⟩
instance : Cf Try.prog 73 := ⟨Try.call73⟩
instance : Cf Try.prog 74 := ⟨Try.call74⟩
instance : Cf Try.prog 75 := ⟨Try.call75⟩
instance : Cf Try.prog 76 := ⟨Try.call76⟩
instance : Cf Try.prog 77 := ⟨Try.call77⟩
instance : Cf Try.prog 78 := ⟨Try.call78⟩
instance : Cf Try.prog 79 := ⟨Try.call79⟩
instance : Mx Try.prog := ⟨by kernel_rfl⟩
end Go.Proofs.Ytohlaabclifbfaa.X
/-
  Small functions: numbers of bytes, rows that are copied, compared, written over: walks of my own.
-/
namespace Go.Proofs.Ytohlaabclifbfaa.X
open Go Go.RowKit
set_option linter.unusedVariables false
set_option linter.unusedSimpArgs false
/-- slices.Clone: a row in new memory. -/
theorem xf_clone {W : World} {L : List Blk} (p : Option Addr) (m c : Nat) (xs : List Value) (hx : xs.length = m * 1) (hr : Rs W L p xs) (h1 : xs.all (·.oneCell') = true) (hm : m ≤ 1000000000) : XF Try.prog W 74 #[.slice p m c] L (fun v L' => ∃ q k l, v = .slice q m k ∧ SlO 1 5 (.slice q m k) m xs l ∧ m ≤ k ∧ L' = l ++ L) := by
  refine xf_enter (args := [_]) Try.func74 rfl Try.ntmps74 rfl ?_
  cases p with
  | none =>
    have h0 := hr.none_nil
    subst h0
    have hm0 : m = 0 := by simp at hx; omega
    subst hm0
    focus
      refine xc_seq ?_
      refine xc_region ?_
      refine xo_rd (rd_assign rfl) rfl ?_
      refine xo_nil ?_
      refine xq_seq ?_
      refine xc_seq ?_
      refine xc_seq ?_
      refine xc_region ?_
      refine xo_rd (rd_move rfl) rfl ?_
      refine xo_rd (rd_eqnilS rfl) rfl ?_
      refine xo_nil ?_
      refine xq_seq ?_
      refine xc_condt rfl ?_
      refine xc_seq ?_
      refine xc_region ?_
      refine xo_rd (rd_assign rfl) rfl ?_
      refine xo_nil ?_
      refine xq_seq ?_
      refine xc_ret ?_
      refine xq_then_ret ?_
    exact xq_ret1 (.inl rfl) Try.results74 rfl ⟨none, 0, [], rfl, SlO.nil, Nat.le_refl _, rfl⟩
  | some a =>
    focus
      refine xc_seq ?_
      refine xc_region ?_
      refine xo_rd (rd_assign rfl) rfl ?_
      refine xo_nil ?_
      refine xq_seq ?_
      refine xc_seq ?_
      refine xc_seq ?_
      refine xc_region ?_
      refine xo_rd (rd_move rfl) rfl ?_
      refine xo_rd (rd_eqnilS rfl) rfl ?_
      refine xo_nil ?_
      refine xq_seq ?_
      refine xc_condf rfl ?_
      refine xc_skip ?_
      refine xq_seq ?_
      refine xc_seq ?_
      refine xc_region ?_
      refine xo_ef rfl (ef_slice0 fun r5 => ?_)
      refine xo_rd (rd_move rfl) rfl ?_
    refine xo_ef rfl (ef_append [] L [_] rfl rfl SlO.zero rfl hr.skip hx h1 (by decide) (by omega) (by omega) fun v' l' hO => ?_)
    rw [Nat.zero_add, List.nil_append] at hO
    obtain ⟨q, k, rfl, hO, _⟩ := hO.opn
    focus
      refine xo_rd (rd_assign rfl) rfl ?_
      refine xo_nil ?_
      refine xq_seq ?_
      refine xc_ret ?_
    exact xq_ret1 (.inl rfl) Try.results74 rfl ⟨q, k, l', rfl, hO, hO.cap.2, rfl⟩
/-- easelkit's Own: a row, in new memory. -/
theorem xf_own {W : World} {L : List Blk} (p : Option Addr) (m c : Nat) (xs : List Value) (hx : xs.length = m * 1) (hr : Rs W L p xs) (h1 : xs.all (·.oneCell') = true) (hm : m ≤ 1000000000) : XF Try.prog W 9 #[.slice p m c] L (fun v L' => ∃ q k l, v = .slice q m k ∧ SlO 1 5 (.slice q m k) m xs l ∧ m ≤ k ∧ L' = l ++ L) := by
  refine xf_enter (args := [_]) Try.func9 rfl Try.ntmps9 rfl ?_
  focus
    refine xc_seq ?_
    refine xc_region ?_
    refine xo_rd (rd_assign rfl) rfl ?_
    refine xo_nil ?_
    refine xq_seq ?_
    refine xc_seq ?_
    refine xc_region ?_
    refine xo_rd (rd_assign rfl) rfl ?_
    refine xo_nil ?_
    refine xq_seq ?_
    refine xc_seq ?_
    refine xc_region ?_
    refine xo_rd (rd_move rfl) rfl ?_
    refine xo_rd (rd_move rfl) rfl ?_
  refine xo_ef rfl (ef_append [] L [] rfl rfl SlO.nil rfl hr hx h1 (by decide) (by omega) (by omega) fun v' l' hO => ?_)
  rw [Nat.zero_add, List.nil_append] at hO
  obtain ⟨q, k, rfl, hO, _⟩ := hO.opn
  focus
    refine xo_rd (rd_assign rfl) rfl ?_
    refine xo_nil ?_
    refine xq_seq ?_
    refine xc_ret ?_
  exact xq_ret1 (.inl rfl) Try.results9 rfl ⟨q, k, l', rfl, hO, hO.cap.2, rfl⟩
/-- easelkit's SameBytes (and its like): are two rows the same? -/
theorem xf_samebytes {W : World} {L : List Blk} (p q : Option Addr) (m m' c c' : Nat) (xs ys : List Int) (hx : xs.length = m) (hy : ys.length = m') (hr : Rs W L p (ints .u8 xs)) (hs : Rs W L q (ints .u8 ys)) (hm : m ≤ 1000000000) : XF Try.prog W 14 #[.slice p m c, .slice q m' c'] L (fun v L' => v = .bool (decide (xs = ys)) ∧ L' = L) := by
  refine xf_enter (args := [_, _]) Try.func14 rfl Try.ntmps14 rfl ?_
  focus
    refine xc_seq ?_
    refine xc_region ?_
    refine xo_rd (rd_assign rfl) rfl ?_
    refine xo_nil ?_
    refine xq_seq ?_
    refine xc_seq ?_
    refine xc_seq ?_
    refine xc_region ?_
    refine xo_rd (rd_move rfl) rfl ?_
    refine xo_rd (rd_len rfl) rfl ?_
    refine xo_rd (rd_move rfl) rfl ?_
    refine xo_rd (rd_len rfl) rfl ?_
    refine xo_rd (rd_neq rfl rfl) rfl ?_
    refine xo_nil ?_
    refine xq_seq ?_
    refine xc_ndec rfl (fun h1 => ?_) (fun h1 => ?_)
    refine xc_seq ?_
    refine xc_region ?_
    refine xo_rd (rd_assign rfl) rfl ?_
    refine xo_nil ?_
    refine xq_seq ?_
    refine xc_ret ?_
    refine xq_then_ret ?_
    rotate_left
    refine xc_skip ?_
    refine xq_seq ?_
    refine xc_seq ?_
    refine xc_seq ?_
    refine xc_region ?_
    refine xo_rd (rd_assign rfl) rfl ?_
    refine xo_nil ?_
    refine xq_seq ?_
    refine xc_block ?_
    rotate_left
  · refine xq_ret1 (.inl rfl) Try.results14 rfl ⟨?_, rfl⟩
    rw [decide_eq_false (fun e => by subst e; omega)]
  · have hmm : m' = m := by omega
    subst hmm
    refine xc_loopI (ι := Nat) (fun k => k ≤ m' ∧ xs.take k = ys.take k) (fun k => m' - k) (fun _ => L) (fun k => [(0, .slice p m' c), (1, .slice q m' c'), (5, .int .i64 k)]) 0 ⟨Nat.zero_le _, by simp⟩ rfl (by repeat (first | exact keep_nil | refine keep_cons rfl ?_)) ?_
    rintro k ⟨hk, he⟩
    focus
      refine xc_seq ?_
      refine xc_seq ?_
      refine xc_region ?_
      refine xo_rd (rd_move rfl) rfl ?_
      refine xo_rd (rd_move rfl) rfl ?_
      refine xo_rd (rd_len rfl) rfl ?_
      refine xo_rd (rd_lss rfl rfl) rfl ?_
      refine xo_nil ?_
      refine xq_seq ?_
      refine xc_dec rfl (fun hk1 => ?_) (fun hk1 => ?_)
      refine xc_skip ?_
      refine xq_seq ?_
      refine xc_seq ?_
      refine xc_block ?_
      refine xc_seq ?_
      refine xc_drawML [0, 0, 3, 4, 0, 0, 48, 64, 136] [0, 0, 3, 4, 0, 0, 48, 64, 136] (by kernel_rfl) (by kernel_rfl) (by kernel_rfl) ?_
      refine xm_take 0 (m' := 1) rfl (by kernel_rfl) (by first | exact Sb.refl | exact Sb.nil | (repeat (first | exact Sb.nil | exact Sb.refl | exact Sb.app0 | apply Sb.keep | apply Sb.keepApp | apply Sb.cons | apply Sb.app))) (rd_move rfl) rfl (by kernel_rfl) ?_
      refine xm_take 1 (m' := 3) rfl (by kernel_rfl) (by first | exact Sb.refl | exact Sb.nil | (repeat (first | exact Sb.nil | exact Sb.refl | exact Sb.app0 | apply Sb.keep | apply Sb.keepApp | apply Sb.cons | apply Sb.app))) (rd_move rfl) rfl (by kernel_rfl) ?_
      refine xm_take 4 (m' := 19) rfl (by kernel_rfl) (by first | exact Sb.refl | exact Sb.nil | (repeat (first | exact Sb.nil | exact Sb.refl | exact Sb.app0 | apply Sb.keep | apply Sb.keepApp | apply Sb.cons | apply Sb.app))) (rd_move rfl) rfl (by kernel_rfl) ?_
      refine xm_take 5 (m' := 51) rfl (by kernel_rfl) (by first | exact Sb.refl | exact Sb.nil | (repeat (first | exact Sb.nil | exact Sb.refl | exact Sb.app0 | apply Sb.keep | apply Sb.keepApp | apply Sb.cons | apply Sb.app))) (rd_move rfl) rfl (by kernel_rfl) ?_
      rotate_left
      refine xc_exit ?_
      refine xq_then_exit ?_
      refine xq_then_exit ?_
      refine xq_block_hit ?_
      refine xq_seq ?_
      refine xc_seq ?_
      refine xc_region ?_
      refine xo_rd (rd_assign rfl) rfl ?_
      refine xo_nil ?_
      refine xq_seq ?_
      refine xc_ret ?_
      rotate_left
    · obtain ⟨b, o, hp, hc⟩ := hr.int (i := k) (by omega)
      obtain ⟨b', o', hp', hc'⟩ := hs.int (i := k) (by omega)
      subst hp hp'
      focus
        refine xm_take 2 (m' := 55) rfl (by kernel_rfl) (by first | exact Sb.refl | exact Sb.nil | (repeat (first | exact Sb.nil | exact Sb.refl | exact Sb.app0 | apply Sb.keep | apply Sb.keepApp | apply Sb.cons | apply Sb.app))) (rd_indexAddr rfl rfl (by omega) (by omega)) rfl (by kernel_rfl) ?_
        refine xm_take 3 (m' := 63) rfl (by kernel_rfl) (by first | exact Sb.refl | exact Sb.nil | (repeat (first | exact Sb.nil | exact Sb.refl | exact Sb.app0 | apply Sb.keep | apply Sb.keepApp | apply Sb.cons | apply Sb.app))) (rd_load1 rfl hc) rfl (by kernel_rfl) ?_
        refine xm_take 6 (m' := 127) rfl (by kernel_rfl) (by first | exact Sb.refl | exact Sb.nil | (repeat (first | exact Sb.nil | exact Sb.refl | exact Sb.app0 | apply Sb.keep | apply Sb.keepApp | apply Sb.cons | apply Sb.app))) (rd_indexAddr rfl rfl (by omega) (by omega)) rfl (by kernel_rfl) ?_
        refine xm_take 7 (m' := 255) rfl (by kernel_rfl) (by first | exact Sb.refl | exact Sb.nil | (repeat (first | exact Sb.nil | exact Sb.refl | exact Sb.app0 | apply Sb.keep | apply Sb.keepApp | apply Sb.cons | apply Sb.app))) (rd_load1 rfl hc') rfl (by kernel_rfl) ?_
        refine xm_take 8 (m' := 511) rfl (by kernel_rfl) (by first | exact Sb.refl | exact Sb.nil | (repeat (first | exact Sb.nil | exact Sb.refl | exact Sb.app0 | apply Sb.keep | apply Sb.keepApp | apply Sb.cons | apply Sb.app))) (rd_neq rfl rfl) rfl (by kernel_rfl) ?_
        refine xm_done (by kernel_rfl) ?_
        refine xq_seq ?_
        refine xc_ndec rfl (fun hq1 => ?_) (fun hq1 => ?_)
        refine xc_seq ?_
        refine xc_region ?_
        refine xo_rd (rd_assign rfl) rfl ?_
        refine xo_nil ?_
        refine xq_seq ?_
        refine xc_ret ?_
        refine xq_block_ret ?_
        refine xq_then_ret ?_
        refine xq_then_ret ?_
        refine xq_block_ret ?_
        refine xq_then_ret ?_
        rotate_left
        refine xc_skip ?_
        refine xq_block ?_
        refine xq_seq ?_
        refine xc_region ?_
        refine xo_rd (rd_move rfl) rfl ?_
        refine xo_rd (rd_addn rfl rfl (by omega) (by omega)) rfl ?_
        refine xo_rd (rd_assign rfl) rfl ?_
        refine xo_nil ?_
        rotate_left
      · refine xq_ret1 (.inl rfl) Try.results14 rfl ⟨?_, rfl⟩
        rw [decide_eq_false (fun e => by subst e; exact hq1 rfl)]
      · refine xq_roundI (k + 1) ⟨by omega, ?_⟩ (by omega) rfl (by repeat (first | exact keep_nil | refine keep_cons rfl ?_))
        rw [List.take_add_one, List.take_add_one, he, List.getElem?_eq_getElem (by omega), List.getElem?_eq_getElem (by omega), hq1]
    · have hkm : k = m' := by omega
      subst hkm
      refine xq_ret1 (.inl rfl) Try.results14 rfl ⟨?_, rfl⟩
      rw [List.take_of_length_le (by omega), List.take_of_length_le (by omega)] at he
      rw [decide_eq_true he]
theorem xf_samebytesT {W : World} {L : List Blk} (p q : Option Addr) (m m' c c' : Nat) (xs ys : List Int) (he : xs = ys) (hx : xs.length = m) (hy : ys.length = m') (hr : Rs W L p (ints .u8 xs)) (hs : Rs W L q (ints .u8 ys)) (hm : m ≤ 1000000000) : XF Try.prog W 14 #[.slice p m c, .slice q m' c'] L (fun v L' => v = .bool true ∧ L' = L) :=
  (xf_samebytes p q m m' c c' xs ys hx hy hr hs hm).mono fun v L' h => ⟨h.1.trans (by rw [decide_eq_true he]), h.2⟩
/-- easelkit's SameBytes (and its like): are two rows the same? -/
theorem xf_rsamebytes {W : World} {L : List Blk} (p q : Option Addr) (m m' c c' : Nat) (xs ys : List Int) (hx : xs.length = m) (hy : ys.length = m') (hr : Rs W L p (ints .u8 xs)) (hs : Rs W L q (ints .u8 ys)) (hm : m ≤ 1000000000) : XF Try.prog W 54 #[.slice p m c, .slice q m' c'] L (fun v L' => v = .bool (decide (xs = ys)) ∧ L' = L) := by
  refine xf_enter (args := [_, _]) Try.func54 rfl Try.ntmps54 rfl ?_
  focus
    refine xc_seq ?_
    refine xc_region ?_
    refine xo_rd (rd_assign rfl) rfl ?_
    refine xo_nil ?_
    refine xq_seq ?_
    refine xc_seq ?_
    refine xc_seq ?_
    refine xc_region ?_
    refine xo_rd (rd_move rfl) rfl ?_
    refine xo_rd (rd_len rfl) rfl ?_
    refine xo_rd (rd_move rfl) rfl ?_
    refine xo_rd (rd_len rfl) rfl ?_
    refine xo_rd (rd_neq rfl rfl) rfl ?_
    refine xo_nil ?_
    refine xq_seq ?_
    refine xc_ndec rfl (fun h1 => ?_) (fun h1 => ?_)
    refine xc_seq ?_
    refine xc_region ?_
    refine xo_rd (rd_assign rfl) rfl ?_
    refine xo_nil ?_
    refine xq_seq ?_
    refine xc_ret ?_
    refine xq_then_ret ?_
    rotate_left
    refine xc_skip ?_
    refine xq_seq ?_
    refine xc_seq ?_
    refine xc_seq ?_
    refine xc_region ?_
    refine xo_rd (rd_assign rfl) rfl ?_
    refine xo_nil ?_
    refine xq_seq ?_
    refine xc_block ?_
    rotate_left
  · refine xq_ret1 (.inl rfl) Try.results54 rfl ⟨?_, rfl⟩
    rw [decide_eq_false (fun e => by subst e; omega)]
  · have hmm : m' = m := by omega
    subst hmm
    refine xc_loopI (ι := Nat) (fun k => k ≤ m' ∧ xs.take k = ys.take k) (fun k => m' - k) (fun _ => L) (fun k => [(0, .slice p m' c), (1, .slice q m' c'), (5, .int .i64 k)]) 0 ⟨Nat.zero_le _, by simp⟩ rfl (by repeat (first | exact keep_nil | refine keep_cons rfl ?_)) ?_
    rintro k ⟨hk, he⟩
    focus
      refine xc_seq ?_
      refine xc_seq ?_
      refine xc_region ?_
      refine xo_rd (rd_move rfl) rfl ?_
      refine xo_rd (rd_move rfl) rfl ?_
      refine xo_rd (rd_len rfl) rfl ?_
      refine xo_rd (rd_lss rfl rfl) rfl ?_
      refine xo_nil ?_
      refine xq_seq ?_
      refine xc_dec rfl (fun hk1 => ?_) (fun hk1 => ?_)
      refine xc_skip ?_
      refine xq_seq ?_
      refine xc_seq ?_
      refine xc_block ?_
      refine xc_seq ?_
      refine xc_drawML [0, 0, 3, 4, 0, 0, 48, 64, 136] [0, 0, 3, 4, 0, 0, 48, 64, 136] (by kernel_rfl) (by kernel_rfl) (by kernel_rfl) ?_
      refine xm_take 0 (m' := 1) rfl (by kernel_rfl) (by first | exact Sb.refl | exact Sb.nil | (repeat (first | exact Sb.nil | exact Sb.refl | exact Sb.app0 | apply Sb.keep | apply Sb.keepApp | apply Sb.cons | apply Sb.app))) (rd_move rfl) rfl (by kernel_rfl) ?_
      refine xm_take 1 (m' := 3) rfl (by kernel_rfl) (by first | exact Sb.refl | exact Sb.nil | (repeat (first | exact Sb.nil | exact Sb.refl | exact Sb.app0 | apply Sb.keep | apply Sb.keepApp | apply Sb.cons | apply Sb.app))) (rd_move rfl) rfl (by kernel_rfl) ?_
      refine xm_take 4 (m' := 19) rfl (by kernel_rfl) (by first | exact Sb.refl | exact Sb.nil | (repeat (first | exact Sb.nil | exact Sb.refl | exact Sb.app0 | apply Sb.keep | apply Sb.keepApp | apply Sb.cons | apply Sb.app))) (rd_move rfl) rfl (by kernel_rfl) ?_
      refine xm_take 5 (m' := 51) rfl (by kernel_rfl) (by first | exact Sb.refl | exact Sb.nil | (repeat (first | exact Sb.nil | exact Sb.refl | exact Sb.app0 | apply Sb.keep | apply Sb.keepApp | apply Sb.cons | apply Sb.app))) (rd_move rfl) rfl (by kernel_rfl) ?_
      rotate_left
      refine xc_exit ?_
      refine xq_then_exit ?_
      refine xq_then_exit ?_
      refine xq_block_hit ?_
      refine xq_seq ?_
      refine xc_seq ?_
      refine xc_region ?_
      refine xo_rd (rd_assign rfl) rfl ?_
      refine xo_nil ?_
      refine xq_seq ?_
      refine xc_ret ?_
      rotate_left
    · obtain ⟨b, o, hp, hc⟩ := hr.int (i := k) (by omega)
      obtain ⟨b', o', hp', hc'⟩ := hs.int (i := k) (by omega)
      subst hp hp'
      focus
        refine xm_take 2 (m' := 55) rfl (by kernel_rfl) (by first | exact Sb.refl | exact Sb.nil | (repeat (first | exact Sb.nil | exact Sb.refl | exact Sb.app0 | apply Sb.keep | apply Sb.keepApp | apply Sb.cons | apply Sb.app))) (rd_indexAddr rfl rfl (by omega) (by omega)) rfl (by kernel_rfl) ?_
        refine xm_take 3 (m' := 63) rfl (by kernel_rfl) (by first | exact Sb.refl | exact Sb.nil | (repeat (first | exact Sb.nil | exact Sb.refl | exact Sb.app0 | apply Sb.keep | apply Sb.keepApp | apply Sb.cons | apply Sb.app))) (rd_load1 rfl hc) rfl (by kernel_rfl) ?_
        refine xm_take 6 (m' := 127) rfl (by kernel_rfl) (by first | exact Sb.refl | exact Sb.nil | (repeat (first | exact Sb.nil | exact Sb.refl | exact Sb.app0 | apply Sb.keep | apply Sb.keepApp | apply Sb.cons | apply Sb.app))) (rd_indexAddr rfl rfl (by omega) (by omega)) rfl (by kernel_rfl) ?_
        refine xm_take 7 (m' := 255) rfl (by kernel_rfl) (by first | exact Sb.refl | exact Sb.nil | (repeat (first | exact Sb.nil | exact Sb.refl | exact Sb.app0 | apply Sb.keep | apply Sb.keepApp | apply Sb.cons | apply Sb.app))) (rd_load1 rfl hc') rfl (by kernel_rfl) ?_
        refine xm_take 8 (m' := 511) rfl (by kernel_rfl) (by first | exact Sb.refl | exact Sb.nil | (repeat (first | exact Sb.nil | exact Sb.refl | exact Sb.app0 | apply Sb.keep | apply Sb.keepApp | apply Sb.cons | apply Sb.app))) (rd_neq rfl rfl) rfl (by kernel_rfl) ?_
        refine xm_done (by kernel_rfl) ?_
        refine xq_seq ?_
        refine xc_ndec rfl (fun hq1 => ?_) (fun hq1 => ?_)
        refine xc_seq ?_
        refine xc_region ?_
        refine xo_rd (rd_assign rfl) rfl ?_
        refine xo_nil ?_
        refine xq_seq ?_
        refine xc_ret ?_
        refine xq_block_ret ?_
        refine xq_then_ret ?_
        refine xq_then_ret ?_
        refine xq_block_ret ?_
        refine xq_then_ret ?_
        rotate_left
        refine xc_skip ?_
        refine xq_block ?_
        refine xq_seq ?_
        refine xc_region ?_
        refine xo_rd (rd_move rfl) rfl ?_
        refine xo_rd (rd_addn rfl rfl (by omega) (by omega)) rfl ?_
        refine xo_rd (rd_assign rfl) rfl ?_
        refine xo_nil ?_
        rotate_left
      · refine xq_ret1 (.inl rfl) Try.results54 rfl ⟨?_, rfl⟩
        rw [decide_eq_false (fun e => by subst e; exact hq1 rfl)]
      · refine xq_roundI (k + 1) ⟨by omega, ?_⟩ (by omega) rfl (by repeat (first | exact keep_nil | refine keep_cons rfl ?_))
        rw [List.take_add_one, List.take_add_one, he, List.getElem?_eq_getElem (by omega), List.getElem?_eq_getElem (by omega), hq1]
    · have hkm : k = m' := by omega
      subst hkm
      refine xq_ret1 (.inl rfl) Try.results54 rfl ⟨?_, rfl⟩
      rw [List.take_of_length_le (by omega), List.take_of_length_le (by omega)] at he
      rw [decide_eq_true he]
theorem xf_rsamebytesT {W : World} {L : List Blk} (p q : Option Addr) (m m' c c' : Nat) (xs ys : List Int) (he : xs = ys) (hx : xs.length = m) (hy : ys.length = m') (hr : Rs W L p (ints .u8 xs)) (hs : Rs W L q (ints .u8 ys)) (hm : m ≤ 1000000000) : XF Try.prog W 54 #[.slice p m c, .slice q m' c'] L (fun v L' => v = .bool true ∧ L' = L) :=
  (xf_rsamebytes p q m m' c c' xs ys hx hy hr hs hm).mono fun v L' h => ⟨h.1.trans (by rw [decide_eq_true he]), h.2⟩
/-- easelkit's Spoil: an owned row is written over. -/
theorem xf_spoil {W : World} {R : List Blk} (v : Value) (m : Nat) (xs : List Value) (l : List Blk) (hO : SlO 1 5 v m xs l) (hm : m ≤ 1000000000) : XF Try.prog W 13 #[v] (l ++ R) (fun u L' => u = .tuple #[] ∧ ∃ xs' l', SlO 1 5 v m xs' l' ∧ L' = l' ++ R) := by
  obtain ⟨p, c, rfl, hO, hc⟩ := hO.opn
  refine xf_enter (args := [_]) Try.func13 rfl Try.ntmps13 rfl ?_
  focus
    refine xc_seq ?_
    refine xc_region ?_
    refine xo_rd (rd_assign rfl) rfl ?_
    refine xo_nil ?_
    refine xq_seq ?_
    refine xc_block ?_
  refine xc_loopI (ι := Nat × List Value × List Blk) (fun s => s.1 ≤ m ∧ SlO 1 5 (.slice p m c) m s.2.1 s.2.2) (fun s => m - s.1) (fun s => s.2.2 ++ R) (fun s => [(0, .slice p m c), (2, .int .i64 s.1)]) (0, xs, l) ⟨Nat.zero_le _, hO⟩ rfl (by repeat (first | exact keep_nil | refine keep_cons rfl ?_)) ?_
  rintro ⟨k, xs, l⟩ ⟨hk, hO⟩
  dsimp only at hk hO ⊢
  focus
    refine xc_seq ?_
    refine xc_seq ?_
    refine xc_region ?_
    refine xo_rd (rd_move rfl) rfl ?_
    refine xo_rd (rd_move rfl) rfl ?_
    refine xo_rd (rd_len rfl) rfl ?_
    refine xo_rd (rd_lss rfl rfl) rfl ?_
    refine xo_nil ?_
    refine xq_seq ?_
    refine xc_dec rfl (fun hk1 => ?_) (fun hk1 => ?_)
    refine xc_skip ?_
    refine xq_seq ?_
    refine xc_seq ?_
    refine xc_block ?_
    refine xc_region ?_
    refine xo_rd (rd_move rfl) rfl ?_
    refine xo_rd (rd_move rfl) rfl ?_
    rotate_left
    refine xc_exit ?_
    refine xq_then_exit ?_
    refine xq_then_exit ?_
    refine xq_block_hit ?_
    rotate_left
  · obtain ⟨b, rest, cap, hv, hcap, hl⟩ := hO.cut (by omega)
    simp only [Value.slice.injEq] at hv
    obtain ⟨hp, _, hcc⟩ := hv
    subst hp
    focus
      refine xo_rd (rd_indexAddr rfl rfl (by omega) (by omega)) rfl ?_
      refine xo_ef rfl (ef_storeEl [] R (i := k) hO (by simp [ev, lk, pt]) rfl (by omega) rfl rfl rfl (by decide) rfl fun l' hO' => ?_)
      refine xo_nil ?_
      refine xq_block ?_
      refine xq_seq ?_
      refine xc_region ?_
      refine xo_rd (rd_move rfl) rfl ?_
      refine xo_rd (rd_addn rfl rfl (by omega) (by omega)) rfl ?_
      refine xo_rd (rd_assign rfl) rfl ?_
      refine xo_nil ?_
    exact xq_roundI (k + 1, _, l') ⟨by dsimp only; omega, hO'⟩ (by dsimp only; omega) rfl (by repeat (first | exact keep_nil | refine keep_cons rfl ?_))
  · exact xq_ret0 (.inr rfl) Try.results13 ⟨rfl, xs, l, hO, rfl⟩
theorem vl_snoc (l : List Int) (c : Int) : vl (l ++ [c]) = vl l * 256 + c := by unfold vl; rw [List.foldl_append]; rfl
theorem vl_take (l : List Int) (k : Nat) (h : k < l.length) : vl (l.take (k + 1)) = vl (l.take k) * 256 + l[k] := by
  rw [List.take_add_one, List.getElem?_eq_getElem h]
  exact vl_snoc _ _
theorem vl_bd (l : List Int) (hb : ∀ x, x ∈ l → By x) : ∀ k, k ≤ l.length → 0 ≤ vl (l.take k) ∧ vl (l.take k) < 256 ^ k
  | 0, _ => ⟨by simp [vl], by simp [vl]⟩
  | k + 1, h => by
    obtain ⟨h1, h2⟩ := vl_bd l hb k (by omega)
    have hk := hb l[k] (List.getElem_mem _)
    unfold By at hk
    rw [vl_take l k h, Int.pow_succ]
    omega
theorem pow_bd (k : Nat) (h : k ≤ 3) : (256 : Int) ^ k ≤ 16777216 := by
  have : k = 0 ∨ k = 1 ∨ k = 2 ∨ k = 3 := by omega
  rcases this with rfl | rfl | rfl | rfl <;> decide
theorem vl_u4 (l : List Int) (hb : ∀ x, x ∈ l → By x) (h : l.length ≤ 4) : U4 (vl l) := by
  have h1 := vl_bd l hb l.length (Nat.le_refl _)
  rw [List.take_length] at h1
  have : (256 : Int) ^ l.length ≤ 4294967296 := by
    have : l.length = 0 ∨ l.length = 1 ∨ l.length = 2 ∨ l.length = 3 ∨ l.length = 4 := by omega
    rcases this with h | h | h | h | h <;> rw [h] <;> decide
  unfold U4; omega
theorem xf_value {W : World} {L : List Blk} (p : Option Addr) (m c : Nat) (xs : List Int) (hx : xs.length = m) (hr : Rs W L p (ints .u8 xs)) (hb : ∀ x, x ∈ xs → By x) (hm : m ≤ 4) : XF Try.prog W 46 #[.slice p m c] L (fun v L' => v = .int .u64 (vl xs) ∧ L' = L) := by
  refine xf_enter (args := [_]) Try.func46 rfl Try.ntmps46 rfl ?_
  focus
    refine xc_seq ?_
    refine xc_region ?_
    refine xo_rd (rd_assign rfl) rfl ?_
    refine xo_nil ?_
    refine xq_seq ?_
    refine xc_seq ?_
    refine xc_region ?_
    refine xo_rd (rd_assign rfl) rfl ?_
    refine xo_nil ?_
    refine xq_seq ?_
    refine xc_seq ?_
    refine xc_seq ?_
    refine xc_region ?_
    refine xo_rd (rd_assign rfl) rfl ?_
    refine xo_nil ?_
    refine xq_seq ?_
    refine xc_block ?_
  refine xc_loopI (ι := Nat × Int) (fun s => s.1 ≤ m ∧ s.2 = vl (xs.take s.1)) (fun s => m - s.1) (fun _ => L) (fun s => [(0, .slice p m c), (3, .int .u64 s.2), (4, .int .i64 s.1)]) (0, 0) ⟨Nat.zero_le _, rfl⟩ rfl (by repeat (first | exact keep_nil | refine keep_cons rfl ?_)) ?_
  rintro ⟨k, v⟩ ⟨hk, hv⟩
  dsimp only at hk hv ⊢
  have hbd := vl_bd xs hb k (by omega)
  rw [← hv] at hbd
  focus
    refine xc_seq ?_
    refine xc_seq ?_
    refine xc_region ?_
    refine xo_rd (rd_move rfl) rfl ?_
    refine xo_rd (rd_move rfl) rfl ?_
    refine xo_rd (rd_len rfl) rfl ?_
    refine xo_rd (rd_lss rfl rfl) rfl ?_
    refine xo_nil ?_
    refine xq_seq ?_
    refine xc_dec rfl (fun hq1 => ?_) (fun hq1 => ?_)
    refine xc_skip ?_
    refine xq_seq ?_
    rotate_left
    refine xc_exit ?_
    refine xq_then_exit ?_
    refine xq_then_exit ?_
    refine xq_block_hit ?_
    refine xq_seq ?_
    refine xc_seq ?_
    refine xc_region ?_
    refine xo_rd (rd_move rfl) rfl ?_
    refine xo_rd (rd_assign rfl) rfl ?_
    refine xo_nil ?_
    refine xq_seq ?_
    refine xc_ret ?_
    rotate_left
  · obtain ⟨b, o, rfl, hc⟩ := hr.int (i := k) (by omega)
    have hxk := hb xs[k] (List.getElem_mem _)
    unfold By at hxk
    have hp := pow_bd k (by omega)
    refine xc_seq (xc_block ?_)
    focus
      refine xc_region ?_
      refine xo_rd (rd_move rfl) rfl ?_
      refine xo_rd (rd_muln rfl rfl (by omega) (by omega)) rfl ?_
      refine xo_rd (rd_move rfl) rfl ?_
      refine xo_rd (rd_move rfl) rfl ?_
      refine xo_rd (rd_indexAddr rfl rfl (by omega) (by omega)) rfl ?_
      refine xo_rd (rd_load1 rfl hc) rfl ?_
      refine xo_rd (rd_convn rfl (by omega) (by omega)) rfl ?_
      refine xo_rd (rd_addn rfl rfl (by omega) (by omega)) rfl ?_
      refine xo_rd (rd_assign rfl) rfl ?_
      refine xo_nil ?_
      refine xq_block ?_
      refine xq_seq ?_
      refine xc_region ?_
      refine xo_rd (rd_move rfl) rfl ?_
      refine xo_rd (rd_addn rfl rfl (by omega) (by omega)) rfl ?_
      refine xo_rd (rd_assign rfl) rfl ?_
      refine xo_nil ?_
    refine xq_roundI (k + 1, _) ⟨by dsimp only; omega, ?_⟩ (by dsimp only; omega) rfl (by repeat (first | exact keep_nil | refine keep_cons rfl ?_))
    dsimp only
    rw [vl_take xs k (by omega), hv]
  · have : k = m := by omega
    subst this
    refine xq_ret1 (.inl rfl) Try.results46 rfl ⟨?_, rfl⟩
    rw [hv, List.take_of_length_le (by omega)]
theorem strOfNums_inj {a b : List Int} (ha : ∀ x, x ∈ a → By x) (hb : ∀ x, x ∈ b → By x) : strOfNums a = strOfNums b ↔ a = b := by
  refine ⟨fun h => ?_, fun h => by rw [h]⟩
  have h1 : a.map (fun n => UInt8.ofNat n.toNat) = b.map (fun n => UInt8.ofNat n.toNat) := by
    rw [← strOfNums_data, ← strOfNums_data, h]
  have key : ∀ (a b : List Int), (∀ x, x ∈ a → By x) → (∀ x, x ∈ b → By x) → a.map (fun n => UInt8.ofNat n.toNat) = b.map (fun n => UInt8.ofNat n.toNat) → a = b := by
    intro a
    induction a with
    | nil => intro b _ _ h; cases b with
      | nil => rfl
      | cons y r => cases h
    | cons x r ih => intro b ha hb h; cases b with
      | nil => cases h
      | cons y s =>
        simp only [List.map_cons, List.cons.injEq] at h
        have hx := ha x (List.mem_cons_self ..)
        have hy := hb y (List.mem_cons_self ..)
        unfold By at hx hy
        have e1 : x = y := by
          have := congrArg UInt8.toNat h.1
          simp only [UInt8.toNat_ofNat'] at this
          omega
        rw [e1, ih s (fun z hz => ha z (List.mem_cons_of_mem _ hz)) (fun z hz => hb z (List.mem_cons_of_mem _ hz)) h.2]
  exact key a b ha hb h1
theorem xf_bequal {W : World} {L : List Blk} (p q : Option Addr) (m m' c c' : Nat) (xs ys : List Int) (hx : xs.length = m) (hy : ys.length = m') (hr : Rs W L p (ints .u8 xs)) (hs : Rs W L q (ints .u8 ys)) (hb : ∀ x, x ∈ xs → By x) (hb2 : ∀ x, x ∈ ys → By x) : XF Try.prog W 53 #[.slice p m c, .slice q m' c'] L (fun v L' => v = .bool (decide (xs = ys)) ∧ L' = L) := by
  refine xf_enter (args := [_, _]) Try.func53 rfl Try.ntmps53 rfl ?_
  focus
    refine xc_seq ?_
    refine xc_region ?_
    refine xo_rd (rd_assign rfl) rfl ?_
    refine xo_nil ?_
    refine xq_seq ?_
    refine xc_seq ?_
    refine xc_region ?_
    refine xo_rd (rd_move rfl) rfl ?_
    refine xo_rd (rd_convStr hr rfl hx) rfl ?_
    refine xo_rd (rd_move rfl) rfl ?_
    refine xo_rd (rd_convStr hs rfl hy) rfl ?_
    refine xo_rd (rd_eqs rfl rfl) rfl ?_
    refine xo_rd (rd_assign rfl) rfl ?_
    refine xo_nil ?_
    refine xq_seq ?_
    refine xc_ret ?_
  refine xq_ret1 (.inl rfl) Try.results53 rfl ⟨?_, rfl⟩
  congr 1
  rw [decide_eq_decide]
  exact strOfNums_inj hb hb2
end Go.Proofs.Ytohlaabclifbfaa.X
/-
  Packets of RTCP: first kinds, words, right, same, copied: walks of my own.
-/
namespace Go.Proofs.Ytohlaabclifbfaa.X
open Go Go.RowKit
set_option linter.unusedVariables false
set_option linter.unusedSimpArgs false
theorem xf_isFirst {W : World} {L : List Blk} (k : Int) (b : Bool) (hb : isFirst k = b) : XF Try.prog W 50 #[.int .u8 k] L (fun v L' => v = .bool b ∧ L' = L) := by
  subst hb
  refine xf_enter (args := [_]) Try.func50 rfl Try.ntmps50 rfl ?_
  focus
    refine xc_seq ?_
    refine xc_region ?_
    refine xo_rd (rd_assign rfl) rfl ?_
    refine xo_nil ?_
    refine xq_seq ?_
    refine xc_seq ?_
    refine xc_region ?_
    refine xo_rd (rd_move rfl) rfl ?_
    refine xo_rd (rd_eql rfl rfl) rfl ?_
    refine xo_rd (rd_move rfl) rfl ?_
    refine xo_dec 5 rfl (fun hw1 => ?_) (fun hw1 => ?_)
    refine xo_gskip rfl rfl rfl rfl ?_
    refine xo_gskip rfl rfl rfl rfl ?_
    refine xo_rd (rd_pickt rfl rfl) rfl ?_
    refine xo_rd (rd_assign rfl) rfl ?_
    refine xo_nil ?_
    refine xq_seq ?_
    refine xc_ret ?_
    rotate_left
    refine xo_grd rfl rfl (rd_move rfl) rfl ?_
    refine xo_grd rfl rfl (rd_eql rfl rfl) rfl ?_
    refine xo_rd (rd_pickf rfl rfl) rfl ?_
    refine xo_rd (rd_assign rfl) rfl ?_
    refine xo_nil ?_
    refine xq_seq ?_
    refine xc_ret ?_
    rotate_left
  all_goals refine xq_ret1 (.inl rfl) Try.results50 rfl ⟨?_, rfl⟩
  · exact congrArg Value.bool (by unfold isFirst; exact (decide_eq_true (by omega)).symm)
  · exact congrArg Value.bool (by unfold isFirst; rw [decide_eq_decide]; omega)
theorem xf_words {W : World} {L : List Blk} (q : Pc) (p : Option Addr) (c : Nat) (b1 : q.bd.length ≤ 1000000000) (b2 : By q.pd) : XF Try.prog W 51 #[.agg (q.enc (.slice p q.bd.length c)).toArray] L (fun v L' => v = .int .i64 (((q.bd.length : Int) + q.pd) / 4) ∧ L' = L) := by
  refine xf_enter (args := [_]) Try.func51 rfl Try.ntmps51 rfl ?_
  obtain ⟨ct, kd, bd, pd⟩ := q
  dsimp only [By] at b1 b2
  dsimp only [Pc.enc]
  focus
    refine xc_seq ?_
    refine xc_region ?_
    refine xo_ef rfl (ef_box rfl fun r1 => ?_)
    refine xo_rd (rd_assign rfl) rfl ?_
    refine xo_nil ?_
    refine xq_seq ?_
    refine xc_seq ?_
    refine xc_region ?_
    refine xo_rd (rd_fieldAddr rfl) rfl ?_
    refine xo_rd (rd_load1 rfl (Cl.o0 rfl)) rfl ?_
    refine xo_rd (rd_len rfl) rfl ?_
    refine xo_rd (rd_fieldAddr rfl) rfl ?_
    refine xo_rd (rd_load1 rfl (Cl.o0 rfl)) rfl ?_
    refine xo_rd (rd_convn rfl (by omega) (by omega)) rfl ?_
    refine xo_rd (rd_addn rfl rfl (by omega) (by omega)) rfl ?_
    refine xo_rd (rd_quon rfl rfl (by omega) (by omega) (by omega) (by omega)) rfl ?_
    refine xo_rd (rd_assign rfl) rfl ?_
    refine xo_nil ?_
    refine xq_seq ?_
    refine xc_ret ?_
    exact xq_tail (xq_ret1 (.inl rfl) Try.results51 rfl (⟨rfl, rfl⟩))
theorem xf_right {W : World} {L : List Blk} (q : Pc) (b : Bool) (hb : decide q.Right = b) (p : Option Addr) (c : Nat) (b1 : q.bd.length ≤ 1000000000) (b0 : By q.ct) (b2 : By q.pd) : XF Try.prog W 18 #[.agg (q.enc (.slice p q.bd.length c)).toArray] L (fun v L' => v = .bool b ∧ L' = L) := by
  subst hb
  refine xf_enter (args := [_]) Try.func18 rfl Try.ntmps18 rfl ?_
  obtain ⟨ct, kd, bd, pd⟩ := q
  dsimp only [By] at b0 b1 b2
  dsimp only [Pc.enc]
  focus
    refine xc_seq ?_
    refine xc_region ?_
    refine xo_ef rfl (ef_box rfl fun r1 => ?_)
    refine xo_rd (rd_assign rfl) rfl ?_
    refine xo_nil ?_
    refine xq_seq ?_
    refine xc_seq ?_
    refine xc_region ?_
    refine xo_rd (rd_fieldAddr rfl) rfl ?_
    refine xo_rd (rd_load1 rfl (Cl.o0 rfl)) rfl ?_
    refine xo_rd (rd_leq rfl rfl) rfl ?_
    refine xo_rd (rd_move rfl) rfl ?_
    refine xo_dec 6 rfl (fun hw1 => ?_) (fun hw1 => ?_)
    refine xo_grd rfl rfl (rd_fieldAddr rfl) rfl ?_
    refine xo_grd rfl rfl (rd_load1 rfl (Cl.o0 rfl)) rfl ?_
    refine xo_grd rfl rfl (rd_len rfl) rfl ?_
    refine xo_grd rfl rfl (rd_remn rfl rfl (by omega) (by omega)) rfl ?_
    refine xo_grd rfl rfl (rd_eql rfl rfl) rfl ?_
    refine xo_rd (rd_pickt rfl rfl) rfl ?_
    refine xo_rd (rd_move rfl) rfl ?_
    refine xo_dec 13 rfl (fun hw2 => ?_) (fun hw2 => ?_)
    refine xo_grd rfl rfl (rd_fieldAddr rfl) rfl ?_
    refine xo_grd rfl rfl (rd_load1 rfl (Cl.o0 rfl)) rfl ?_
    refine xo_grd rfl rfl (rd_remn rfl rfl (by omega) (by omega)) rfl ?_
    refine xo_grd rfl rfl (rd_eql rfl rfl) rfl ?_
    refine xo_rd (rd_pickt rfl rfl) rfl ?_
    refine xo_rd (rd_move rfl) rfl ?_
    refine xo_dec 19 rfl (fun hw3 => ?_) (fun hw3 => ?_)
    refine xo_grd rfl rfl (rd_loadB rfl Kn.o0 (by rfl)) rfl ?_
    refine xo_gef rfl rfl rfl (ef_call rfl (XF.mono (xf_words ⟨ct, kd, bd, pd⟩ p c b1 b2) ?_))
    rintro v L' ⟨rfl, rfl⟩
    refine xo_grd rfl rfl (rd_leq rfl rfl) rfl ?_
    refine xo_rd (rd_pickt rfl rfl) rfl ?_
    refine xo_rd (rd_assign rfl) rfl ?_
    refine xo_nil ?_
    refine xq_seq ?_
    refine xc_ret ?_
    rotate_left
    refine xo_gskip rfl rfl rfl rfl ?_
    refine xo_gskip rfl rfl rfl rfl ?_
    refine xo_gskip rfl rfl rfl rfl ?_
    refine xo_rd (rd_pickf rfl rfl) rfl ?_
    refine xo_rd (rd_assign rfl) rfl ?_
    refine xo_nil ?_
    refine xq_seq ?_
    refine xc_ret ?_
    rotate_left
    refine xo_gskip rfl rfl rfl rfl ?_
    refine xo_gskip rfl rfl rfl rfl ?_
    refine xo_gskip rfl rfl rfl rfl ?_
    refine xo_gskip rfl rfl rfl rfl ?_
    refine xo_rd (rd_pickf rfl rfl) rfl ?_
    refine xo_rd (rd_move rfl) rfl ?_
    refine xo_gskip rfl rfl rfl rfl ?_
    refine xo_gskip rfl rfl rfl rfl ?_
    refine xo_gskip rfl rfl rfl rfl ?_
    refine xo_rd (rd_pickf rfl rfl) rfl ?_
    refine xo_rd (rd_assign rfl) rfl ?_
    refine xo_nil ?_
    refine xq_seq ?_
    refine xc_ret ?_
    rotate_left
    refine xo_gskip rfl rfl rfl rfl ?_
    refine xo_gskip rfl rfl rfl rfl ?_
    refine xo_gskip rfl rfl rfl rfl ?_
    refine xo_gskip rfl rfl rfl rfl ?_
    refine xo_gskip rfl rfl rfl rfl ?_
    refine xo_rd (rd_pickf rfl rfl) rfl ?_
    refine xo_rd (rd_move rfl) rfl ?_
    refine xo_gskip rfl rfl rfl rfl ?_
    refine xo_gskip rfl rfl rfl rfl ?_
    refine xo_gskip rfl rfl rfl rfl ?_
    refine xo_gskip rfl rfl rfl rfl ?_
    refine xo_rd (rd_pickf rfl rfl) rfl ?_
    refine xo_rd (rd_move rfl) rfl ?_
    refine xo_gskip rfl rfl rfl rfl ?_
    refine xo_gskip rfl rfl rfl rfl ?_
    refine xo_gskip rfl rfl rfl rfl ?_
    refine xo_rd (rd_pickf rfl rfl) rfl ?_
    refine xo_rd (rd_assign rfl) rfl ?_
    refine xo_nil ?_
    refine xq_seq ?_
    refine xc_ret ?_
    rotate_left
  all_goals refine xq_sub (L' := L) (List.sublist_cons_self _ _) (xq_ret1 (.inl rfl) Try.results18 rfl ⟨?_, rfl⟩)
  all_goals refine congrArg Value.bool ?_
  all_goals first
    | exact (decide_eq_false (by unfold Pc.Right; dsimp only; omega)).symm
    | exact (decide_eq_true (by unfold Pc.Right; dsimp only; omega)).symm
    | (rw [decide_eq_decide]; unfold Pc.Right; dsimp only; omega)
theorem xf_rright {W : World} {L : List Blk} (q : Pc) (b : Bool) (hb : decide q.Right = b) (p : Option Addr) (c : Nat) (b1 : q.bd.length ≤ 1000000000) (b0 : By q.ct) (b2 : By q.pd) : XF Try.prog W 20 #[.agg (q.enc (.slice p q.bd.length c)).toArray] L (fun v L' => v = .bool b ∧ L' = L) := by
  subst hb
  refine xf_enter (args := [_]) Try.func20 rfl Try.ntmps20 rfl ?_
  obtain ⟨ct, kd, bd, pd⟩ := q
  dsimp only [By] at b0 b1 b2
  dsimp only [Pc.enc]
  focus
    refine xc_seq ?_
    refine xc_region ?_
    refine xo_ef rfl (ef_box rfl fun r1 => ?_)
    refine xo_rd (rd_assign rfl) rfl ?_
    refine xo_nil ?_
    refine xq_seq ?_
    refine xc_seq ?_
    refine xc_region ?_
    refine xo_rd (rd_fieldAddr rfl) rfl ?_
    refine xo_rd (rd_load1 rfl (Cl.o0 rfl)) rfl ?_
    refine xo_rd (rd_leq rfl rfl) rfl ?_
    refine xo_rd (rd_move rfl) rfl ?_
    refine xo_dec 6 rfl (fun hw1 => ?_) (fun hw1 => ?_)
    refine xo_grd rfl rfl (rd_fieldAddr rfl) rfl ?_
    refine xo_grd rfl rfl (rd_load1 rfl (Cl.o0 rfl)) rfl ?_
    refine xo_grd rfl rfl (rd_len rfl) rfl ?_
    refine xo_grd rfl rfl (rd_remn rfl rfl (by omega) (by omega)) rfl ?_
    refine xo_grd rfl rfl (rd_eql rfl rfl) rfl ?_
    refine xo_rd (rd_pickt rfl rfl) rfl ?_
    refine xo_rd (rd_move rfl) rfl ?_
    refine xo_dec 13 rfl (fun hw2 => ?_) (fun hw2 => ?_)
    refine xo_grd rfl rfl (rd_fieldAddr rfl) rfl ?_
    refine xo_grd rfl rfl (rd_load1 rfl (Cl.o0 rfl)) rfl ?_
    refine xo_grd rfl rfl (rd_remn rfl rfl (by omega) (by omega)) rfl ?_
    refine xo_grd rfl rfl (rd_eql rfl rfl) rfl ?_
    refine xo_rd (rd_pickt rfl rfl) rfl ?_
    refine xo_rd (rd_move rfl) rfl ?_
    refine xo_dec 19 rfl (fun hw3 => ?_) (fun hw3 => ?_)
    refine xo_grd rfl rfl (rd_fieldAddr rfl) rfl ?_
    refine xo_grd rfl rfl (rd_load1 rfl (Cl.o0 rfl)) rfl ?_
    refine xo_grd rfl rfl (rd_len rfl) rfl ?_
    refine xo_grd rfl rfl (rd_fieldAddr rfl) rfl ?_
    refine xo_grd rfl rfl (rd_load1 rfl (Cl.o0 rfl)) rfl ?_
    refine xo_grd rfl rfl (rd_convn rfl (by omega) (by omega)) rfl ?_
    refine xo_grd rfl rfl (rd_addn rfl rfl (by omega) (by omega)) rfl ?_
    refine xo_grd rfl rfl (rd_leq rfl rfl) rfl ?_
    refine xo_rd (rd_pickt rfl rfl) rfl ?_
    refine xo_rd (rd_assign rfl) rfl ?_
    refine xo_nil ?_
    refine xq_seq ?_
    refine xc_ret ?_
    rotate_left
    refine xo_gskip rfl rfl rfl rfl ?_
    refine xo_gskip rfl rfl rfl rfl ?_
    refine xo_gskip rfl rfl rfl rfl ?_
    refine xo_gskip rfl rfl rfl rfl ?_
    refine xo_gskip rfl rfl rfl rfl ?_
    refine xo_gskip rfl rfl rfl rfl ?_
    refine xo_gskip rfl rfl rfl rfl ?_
    refine xo_gskip rfl rfl rfl rfl ?_
    refine xo_rd (rd_pickf rfl rfl) rfl ?_
    refine xo_rd (rd_assign rfl) rfl ?_
    refine xo_nil ?_
    refine xq_seq ?_
    refine xc_ret ?_
    rotate_left
    refine xo_gskip rfl rfl rfl rfl ?_
    refine xo_gskip rfl rfl rfl rfl ?_
    refine xo_gskip rfl rfl rfl rfl ?_
    refine xo_gskip rfl rfl rfl rfl ?_
    refine xo_rd (rd_pickf rfl rfl) rfl ?_
    refine xo_rd (rd_move rfl) rfl ?_
    refine xo_gskip rfl rfl rfl rfl ?_
    refine xo_gskip rfl rfl rfl rfl ?_
    refine xo_gskip rfl rfl rfl rfl ?_
    refine xo_gskip rfl rfl rfl rfl ?_
    refine xo_gskip rfl rfl rfl rfl ?_
    refine xo_gskip rfl rfl rfl rfl ?_
    refine xo_gskip rfl rfl rfl rfl ?_
    refine xo_gskip rfl rfl rfl rfl ?_
    refine xo_rd (rd_pickf rfl rfl) rfl ?_
    refine xo_rd (rd_assign rfl) rfl ?_
    refine xo_nil ?_
    refine xq_seq ?_
    refine xc_ret ?_
    rotate_left
    refine xo_gskip rfl rfl rfl rfl ?_
    refine xo_gskip rfl rfl rfl rfl ?_
    refine xo_gskip rfl rfl rfl rfl ?_
    refine xo_gskip rfl rfl rfl rfl ?_
    refine xo_gskip rfl rfl rfl rfl ?_
    refine xo_rd (rd_pickf rfl rfl) rfl ?_
    refine xo_rd (rd_move rfl) rfl ?_
    refine xo_gskip rfl rfl rfl rfl ?_
    refine xo_gskip rfl rfl rfl rfl ?_
    refine xo_gskip rfl rfl rfl rfl ?_
    refine xo_gskip rfl rfl rfl rfl ?_
    refine xo_rd (rd_pickf rfl rfl) rfl ?_
    refine xo_rd (rd_move rfl) rfl ?_
    refine xo_gskip rfl rfl rfl rfl ?_
    refine xo_gskip rfl rfl rfl rfl ?_
    refine xo_gskip rfl rfl rfl rfl ?_
    refine xo_gskip rfl rfl rfl rfl ?_
    refine xo_gskip rfl rfl rfl rfl ?_
    refine xo_gskip rfl rfl rfl rfl ?_
    refine xo_gskip rfl rfl rfl rfl ?_
    refine xo_gskip rfl rfl rfl rfl ?_
    refine xo_rd (rd_pickf rfl rfl) rfl ?_
    refine xo_rd (rd_assign rfl) rfl ?_
    refine xo_nil ?_
    refine xq_seq ?_
    refine xc_ret ?_
    rotate_left
  all_goals refine xq_sub (L' := L) (List.sublist_cons_self _ _) (xq_ret1 (.inl rfl) Try.results20 rfl ⟨?_, rfl⟩)
  all_goals refine congrArg Value.bool ?_
  all_goals first
    | exact (decide_eq_false (by unfold Pc.Right; dsimp only; omega)).symm
    | exact (decide_eq_true (by unfold Pc.Right; dsimp only; omega)).symm
    | (rw [decide_eq_decide]; unfold Pc.Right; dsimp only; omega)
theorem xf_same {W : World} {L : List Blk} (a b : Pc) (r : Bool) (hr : decide (a = b) = r) (p1 p2 : Option Addr) (c1 c2 : Nat) (h1 : Rs W L p1 (ints .u8 a.bd)) (h2 : Rs W L p2 (ints .u8 b.bd)) (ha : a.Rg) (hb : b.Rg) (b1 : a.bd.length ≤ 1000000000) :
    XF Try.prog W 21 #[.agg (a.enc (.slice p1 a.bd.length c1)).toArray, .agg (b.enc (.slice p2 b.bd.length c2)).toArray] L (fun v L' => v = .bool r ∧ L' = L) := by
  subst hr
  refine xf_enter (args := [_, _]) Try.func21 rfl Try.ntmps21 rfl ?_
  obtain ⟨ct, kd, bd, pd⟩ := a
  obtain ⟨ct', kd', bd', pd'⟩ := b
  have hax := ha.bd; have hbx := hb.bd
  dsimp only at h1 h2 b1 hax hbx
  dsimp only [Pc.enc]
  focus
    refine xc_seq ?_
    refine xc_region ?_
    refine xo_ef rfl (ef_box rfl fun r2 => ?_)
    refine xo_ef rfl (ef_box rfl fun r3 => ?_)
    refine xo_rd (rd_assign rfl) rfl ?_
    refine xo_nil ?_
    refine xq_seq ?_
    refine xc_seq ?_
    refine xc_region ?_
    refine xo_rd (rd_fieldAddr rfl) rfl ?_
    refine xo_rd (rd_load1 rfl (Cl.o1 rfl)) rfl ?_
    refine xo_rd (rd_fieldAddr rfl) rfl ?_
    refine xo_rd (rd_load1 rfl (Cl.o0 rfl)) rfl ?_
    refine xo_rd (rd_eql rfl rfl) rfl ?_
    refine xo_rd (rd_move rfl) rfl ?_
    refine xo_dec 10 rfl (fun hw1 => ?_) (fun hw1 => ?_)
    refine xo_grd rfl rfl (rd_fieldAddr rfl) rfl ?_
    refine xo_grd rfl rfl (rd_load1 rfl (Cl.o1 rfl)) rfl ?_
    refine xo_grd rfl rfl (rd_fieldAddr rfl) rfl ?_
    refine xo_grd rfl rfl (rd_load1 rfl (Cl.o0 rfl)) rfl ?_
    refine xo_grd rfl rfl (rd_eql rfl rfl) rfl ?_
    refine xo_rd (rd_pickt rfl rfl) rfl ?_
    refine xo_rd (rd_move rfl) rfl ?_
    refine xo_dec 17 rfl (fun hw2 => ?_) (fun hw2 => ?_)
    refine xo_grd rfl rfl (rd_fieldAddr rfl) rfl ?_
    refine xo_grd rfl rfl (rd_load1 rfl (Cl.o1 rfl)) rfl ?_
    refine xo_grd rfl rfl (rd_fieldAddr rfl) rfl ?_
    refine xo_grd rfl rfl (rd_load1 rfl (Cl.o0 rfl)) rfl ?_
    refine xo_grd rfl rfl (rd_eql rfl rfl) rfl ?_
    refine xo_rd (rd_pickt rfl rfl) rfl ?_
    refine xo_rd (rd_move rfl) rfl ?_
    refine xo_dec 24 rfl (fun hw3 => ?_) (fun hw3 => ?_)
    refine xo_grd rfl rfl (rd_fieldAddr rfl) rfl ?_
    refine xo_grd rfl rfl (rd_load1 rfl (Cl.o1 rfl)) rfl ?_
    refine xo_grd rfl rfl (rd_fieldAddr rfl) rfl ?_
    refine xo_grd rfl rfl (rd_load1 rfl (Cl.o0 rfl)) rfl ?_
    refine xo_gef rfl rfl rfl (ef_call rfl (XF.mono (xf_bequal p1 p2 bd.length bd'.length c1 c2 bd bd' rfl rfl (h1.mono (by intro z hz; simp [hz])) (h2.mono (by intro z hz; simp [hz])) hax hbx) ?_))
    rintro v L' ⟨rfl, rfl⟩
    refine xo_rd (rd_pickt rfl rfl) rfl ?_
    refine xo_rd (rd_assign rfl) rfl ?_
    refine xo_nil ?_
    refine xq_seq ?_
    refine xc_ret ?_
    rotate_left
    refine xo_gskip rfl rfl rfl rfl ?_
    refine xo_gskip rfl rfl rfl rfl ?_
    refine xo_gskip rfl rfl rfl rfl ?_
    refine xo_gskip rfl rfl rfl rfl ?_
    refine xo_gskip rfl rfl rfl rfl ?_
    refine xo_rd (rd_pickf rfl rfl) rfl ?_
    refine xo_rd (rd_assign rfl) rfl ?_
    refine xo_nil ?_
    refine xq_seq ?_
    refine xc_ret ?_
    rotate_left
    refine xo_gskip rfl rfl rfl rfl ?_
    refine xo_gskip rfl rfl rfl rfl ?_
    refine xo_gskip rfl rfl rfl rfl ?_
    refine xo_gskip rfl rfl rfl rfl ?_
    refine xo_gskip rfl rfl rfl rfl ?_
    refine xo_rd (rd_pickf rfl rfl) rfl ?_
    refine xo_rd (rd_move rfl) rfl ?_
    refine xo_gskip rfl rfl rfl rfl ?_
    refine xo_gskip rfl rfl rfl rfl ?_
    refine xo_gskip rfl rfl rfl rfl ?_
    refine xo_gskip rfl rfl rfl rfl ?_
    refine xo_gskip rfl rfl rfl rfl ?_
    refine xo_rd (rd_pickf rfl rfl) rfl ?_
    refine xo_rd (rd_assign rfl) rfl ?_
    refine xo_nil ?_
    refine xq_seq ?_
    refine xc_ret ?_
    rotate_left
    refine xo_gskip rfl rfl rfl rfl ?_
    refine xo_gskip rfl rfl rfl rfl ?_
    refine xo_gskip rfl rfl rfl rfl ?_
    refine xo_gskip rfl rfl rfl rfl ?_
    refine xo_gskip rfl rfl rfl rfl ?_
    refine xo_rd (rd_pickf rfl rfl) rfl ?_
    refine xo_rd (rd_move rfl) rfl ?_
    refine xo_gskip rfl rfl rfl rfl ?_
    refine xo_gskip rfl rfl rfl rfl ?_
    refine xo_gskip rfl rfl rfl rfl ?_
    refine xo_gskip rfl rfl rfl rfl ?_
    refine xo_gskip rfl rfl rfl rfl ?_
    refine xo_rd (rd_pickf rfl rfl) rfl ?_
    refine xo_rd (rd_move rfl) rfl ?_
    refine xo_gskip rfl rfl rfl rfl ?_
    refine xo_gskip rfl rfl rfl rfl ?_
    refine xo_gskip rfl rfl rfl rfl ?_
    refine xo_gskip rfl rfl rfl rfl ?_
    refine xo_gskip rfl rfl rfl rfl ?_
    refine xo_rd (rd_pickf rfl rfl) rfl ?_
    refine xo_rd (rd_assign rfl) rfl ?_
    refine xo_nil ?_
    refine xq_seq ?_
    refine xc_ret ?_
    rotate_left
  all_goals refine xq_sub (L' := L) ((List.sublist_cons_self _ _).trans (List.sublist_cons_self _ _)) (xq_ret1 (.inl rfl) Try.results21 rfl ⟨?_, rfl⟩)
  all_goals first
    | (refine congrArg Value.bool (decide_eq_false (fun e => ?_)).symm
       simp only [Pc.mk.injEq] at e
       simp_all; done)
    | (refine congrArg Value.bool ?_
       rw [decide_eq_decide]
       simp_all [Pc.mk.injEq]; done)
theorem xf_rsame {W : World} {L : List Blk} (a b : Pc) (r : Bool) (hr : decide (a = b) = r) (p1 p2 : Option Addr) (c1 c2 : Nat) (h1 : Rs W L p1 (ints .u8 a.bd)) (h2 : Rs W L p2 (ints .u8 b.bd)) (ha : a.Rg) (hb : b.Rg) (b1 : a.bd.length ≤ 1000000000) :
    XF Try.prog W 22 #[.agg (a.enc (.slice p1 a.bd.length c1)).toArray, .agg (b.enc (.slice p2 b.bd.length c2)).toArray] L (fun v L' => v = .bool r ∧ L' = L) := by
  subst hr
  refine xf_enter (args := [_, _]) Try.func22 rfl Try.ntmps22 rfl ?_
  obtain ⟨ct, kd, bd, pd⟩ := a
  obtain ⟨ct', kd', bd', pd'⟩ := b
  have hax := ha.bd; have hbx := hb.bd
  dsimp only at h1 h2 b1 hax hbx
  dsimp only [Pc.enc]
  focus
    refine xc_seq ?_
    refine xc_region ?_
    refine xo_ef rfl (ef_box rfl fun r2 => ?_)
    refine xo_ef rfl (ef_box rfl fun r3 => ?_)
    refine xo_rd (rd_assign rfl) rfl ?_
    refine xo_nil ?_
    refine xq_seq ?_
    refine xc_seq ?_
    refine xc_region ?_
    refine xo_rd (rd_fieldAddr rfl) rfl ?_
    refine xo_rd (rd_load1 rfl (Cl.o1 rfl)) rfl ?_
    refine xo_rd (rd_fieldAddr rfl) rfl ?_
    refine xo_rd (rd_load1 rfl (Cl.o0 rfl)) rfl ?_
    refine xo_rd (rd_eql rfl rfl) rfl ?_
    refine xo_rd (rd_move rfl) rfl ?_
    refine xo_dec 10 rfl (fun hw1 => ?_) (fun hw1 => ?_)
    refine xo_grd rfl rfl (rd_fieldAddr rfl) rfl ?_
    refine xo_grd rfl rfl (rd_load1 rfl (Cl.o1 rfl)) rfl ?_
    refine xo_grd rfl rfl (rd_fieldAddr rfl) rfl ?_
    refine xo_grd rfl rfl (rd_load1 rfl (Cl.o0 rfl)) rfl ?_
    refine xo_grd rfl rfl (rd_eql rfl rfl) rfl ?_
    refine xo_rd (rd_pickt rfl rfl) rfl ?_
    refine xo_rd (rd_move rfl) rfl ?_
    refine xo_dec 17 rfl (fun hw2 => ?_) (fun hw2 => ?_)
    refine xo_grd rfl rfl (rd_fieldAddr rfl) rfl ?_
    refine xo_grd rfl rfl (rd_load1 rfl (Cl.o1 rfl)) rfl ?_
    refine xo_grd rfl rfl (rd_fieldAddr rfl) rfl ?_
    refine xo_grd rfl rfl (rd_load1 rfl (Cl.o0 rfl)) rfl ?_
    refine xo_grd rfl rfl (rd_eql rfl rfl) rfl ?_
    refine xo_rd (rd_pickt rfl rfl) rfl ?_
    refine xo_rd (rd_move rfl) rfl ?_
    refine xo_dec 24 rfl (fun hw3 => ?_) (fun hw3 => ?_)
    refine xo_grd rfl rfl (rd_fieldAddr rfl) rfl ?_
    refine xo_grd rfl rfl (rd_load1 rfl (Cl.o1 rfl)) rfl ?_
    refine xo_grd rfl rfl (rd_fieldAddr rfl) rfl ?_
    refine xo_grd rfl rfl (rd_load1 rfl (Cl.o0 rfl)) rfl ?_
    refine xo_gef rfl rfl rfl (ef_call rfl (XF.mono (xf_rsamebytes p1 p2 bd.length bd'.length c1 c2 bd bd' rfl rfl (h1.mono (by intro z hz; simp [hz])) (h2.mono (by intro z hz; simp [hz])) (by omega)) ?_))
    rintro v L' ⟨rfl, rfl⟩
    refine xo_rd (rd_pickt rfl rfl) rfl ?_
    refine xo_rd (rd_assign rfl) rfl ?_
    refine xo_nil ?_
    refine xq_seq ?_
    refine xc_ret ?_
    rotate_left
    refine xo_gskip rfl rfl rfl rfl ?_
    refine xo_gskip rfl rfl rfl rfl ?_
    refine xo_gskip rfl rfl rfl rfl ?_
    refine xo_gskip rfl rfl rfl rfl ?_
    refine xo_gskip rfl rfl rfl rfl ?_
    refine xo_rd (rd_pickf rfl rfl) rfl ?_
    refine xo_rd (rd_assign rfl) rfl ?_
    refine xo_nil ?_
    refine xq_seq ?_
    refine xc_ret ?_
    rotate_left
    refine xo_gskip rfl rfl rfl rfl ?_
    refine xo_gskip rfl rfl rfl rfl ?_
    refine xo_gskip rfl rfl rfl rfl ?_
    refine xo_gskip rfl rfl rfl rfl ?_
    refine xo_gskip rfl rfl rfl rfl ?_
    refine xo_rd (rd_pickf rfl rfl) rfl ?_
    refine xo_rd (rd_move rfl) rfl ?_
    refine xo_gskip rfl rfl rfl rfl ?_
    refine xo_gskip rfl rfl rfl rfl ?_
    refine xo_gskip rfl rfl rfl rfl ?_
    refine xo_gskip rfl rfl rfl rfl ?_
    refine xo_gskip rfl rfl rfl rfl ?_
    refine xo_rd (rd_pickf rfl rfl) rfl ?_
    refine xo_rd (rd_assign rfl) rfl ?_
    refine xo_nil ?_
    refine xq_seq ?_
    refine xc_ret ?_
    rotate_left
    refine xo_gskip rfl rfl rfl rfl ?_
    refine xo_gskip rfl rfl rfl rfl ?_
    refine xo_gskip rfl rfl rfl rfl ?_
    refine xo_gskip rfl rfl rfl rfl ?_
    refine xo_gskip rfl rfl rfl rfl ?_
    refine xo_rd (rd_pickf rfl rfl) rfl ?_
    refine xo_rd (rd_move rfl) rfl ?_
    refine xo_gskip rfl rfl rfl rfl ?_
    refine xo_gskip rfl rfl rfl rfl ?_
    refine xo_gskip rfl rfl rfl rfl ?_
    refine xo_gskip rfl rfl rfl rfl ?_
    refine xo_gskip rfl rfl rfl rfl ?_
    refine xo_rd (rd_pickf rfl rfl) rfl ?_
    refine xo_rd (rd_move rfl) rfl ?_
    refine xo_gskip rfl rfl rfl rfl ?_
    refine xo_gskip rfl rfl rfl rfl ?_
    refine xo_gskip rfl rfl rfl rfl ?_
    refine xo_gskip rfl rfl rfl rfl ?_
    refine xo_gskip rfl rfl rfl rfl ?_
    refine xo_rd (rd_pickf rfl rfl) rfl ?_
    refine xo_rd (rd_assign rfl) rfl ?_
    refine xo_nil ?_
    refine xq_seq ?_
    refine xc_ret ?_
    rotate_left
  all_goals refine xq_sub (L' := L) ((List.sublist_cons_self _ _).trans (List.sublist_cons_self _ _)) (xq_ret1 (.inl rfl) Try.results22 rfl ⟨?_, rfl⟩)
  all_goals first
    | (refine congrArg Value.bool (decide_eq_false (fun e => ?_)).symm
       simp only [Pc.mk.injEq] at e
       simp_all; done)
    | (refine congrArg Value.bool ?_
       rw [decide_eq_decide]
       simp_all [Pc.mk.injEq]; done)
set_option maxHeartbeats 2000000 in
theorem xf_doc {W : World} {L : List Blk} (q : Pc) (p : Option Addr) (c : Nat) (h1 : Rs W L p (ints .u8 q.bd)) (b1 : q.bd.length ≤ 1000000000) :
    XF Try.prog W 48 #[.agg (q.enc (.slice p q.bd.length c)).toArray] L (fun v L' => ∃ p' c' l, v = .agg (q.enc (.slice p' q.bd.length c')).toArray ∧ SlO 1 5 (.slice p' q.bd.length c') q.bd.length (ints .u8 q.bd) l ∧ L' = l ++ L) := by
  refine xf_enter (args := [_]) Try.func48 rfl Try.ntmps48 rfl ?_
  obtain ⟨ct, kd, bd, pd⟩ := q
  dsimp only at h1 b1
  dsimp only [Pc.enc]
  focus
    refine xc_seq ?_
    refine xc_region ?_
    refine xo_ef rfl (ef_box rfl fun r1 => ?_)
    refine xo_ef rfl (ef_alloc fun r2 => ?_)
    refine xo_nil ?_
    refine xq_seq ?_
    refine xc_seq ?_
    refine xc_drawM [0, 1, 0, 4, 0, 16, 32, 0, 128, 330, 1023] [0, 1, 0, 4, 0, 16, 32, 0, 128, 330, 1023] ([(r1, .cells #[.int .u8 ct, .int .u8 kd, .slice p bd.length c, .int .u8 pd] 35 (0, 0))]) (by kernel_rfl) (by kernel_rfl) (by kernel_rfl) ?_
    refine xm_take 0 (m' := 1) rfl (by kernel_rfl) (by first | exact Sb.refl | exact Sb.nil | (repeat (first | exact Sb.nil | exact Sb.refl | exact Sb.app0 | apply Sb.keep | apply Sb.keepApp | apply Sb.cons | apply Sb.app))) (rd_fieldAddr rfl) rfl (by kernel_rfl) ?_
    refine xm_take 1 (m' := 3) rfl (by kernel_rfl) (by first | exact Sb.refl | exact Sb.nil | (repeat (first | exact Sb.nil | exact Sb.refl | exact Sb.app0 | apply Sb.keep | apply Sb.keepApp | apply Sb.cons | apply Sb.app))) (rd_load1 rfl (Cl.o0 rfl)) rfl (by kernel_rfl) ?_
    refine xm_take 2 (m' := 7) rfl (by kernel_rfl) (by first | exact Sb.refl | exact Sb.nil | (repeat (first | exact Sb.nil | exact Sb.refl | exact Sb.app0 | apply Sb.keep | apply Sb.keepApp | apply Sb.cons | apply Sb.app))) (rd_fieldAddr rfl) rfl (by kernel_rfl) ?_
    refine xm_take 3 (m' := 15) rfl (by kernel_rfl) (by first | exact Sb.refl | exact Sb.nil | (repeat (first | exact Sb.nil | exact Sb.refl | exact Sb.app0 | apply Sb.keep | apply Sb.keepApp | apply Sb.cons | apply Sb.app))) (rd_load1 rfl (Cl.o0 rfl)) rfl (by kernel_rfl) ?_
    refine xm_take 4 (m' := 31) rfl (by kernel_rfl) (by first | exact Sb.refl | exact Sb.nil | (repeat (first | exact Sb.nil | exact Sb.refl | exact Sb.app0 | apply Sb.keep | apply Sb.keepApp | apply Sb.cons | apply Sb.app))) (rd_fieldAddr rfl) rfl (by kernel_rfl) ?_
    refine xm_take 5 (m' := 63) rfl (by kernel_rfl) (by first | exact Sb.refl | exact Sb.nil | (repeat (first | exact Sb.nil | exact Sb.refl | exact Sb.app0 | apply Sb.keep | apply Sb.keepApp | apply Sb.cons | apply Sb.app))) (rd_load1 rfl (Cl.o0 rfl)) rfl (by kernel_rfl) ?_
    refine xm_take 7 (m' := 191) rfl (by kernel_rfl) (by first | exact Sb.refl | exact Sb.nil | (repeat (first | exact Sb.nil | exact Sb.refl | exact Sb.app0 | apply Sb.keep | apply Sb.keepApp | apply Sb.cons | apply Sb.app))) (rd_fieldAddr rfl) rfl (by kernel_rfl) ?_
    refine xm_take 8 (m' := 447) rfl (by kernel_rfl) (by first | exact Sb.refl | exact Sb.nil | (repeat (first | exact Sb.nil | exact Sb.refl | exact Sb.app0 | apply Sb.keep | apply Sb.keepApp | apply Sb.cons | apply Sb.app))) (rd_load1 rfl (Cl.o0 rfl)) rfl (by kernel_rfl) ?_
    refine xm_one 6 (m' := 511) rfl (by kernel_rfl) rfl (by kernel_rfl) (ef_call rfl (XF.mono (xf_own p bd.length c (ints .u8 bd) (by rw [ints_len, Nat.mul_one]) (h1.mono (by intro z hz; simp [hz])) (ints_one _ _) (by omega)) ?_))
    rintro v L' ⟨q', k', l', rfl, hO, _, rfl⟩
    refine xmx_perm List.perm_append_comm ?_
    refine ⟨(by first | exact Sb.refl | exact Sb.nil | (repeat (first | exact Sb.nil | exact Sb.refl | exact Sb.app0 | apply Sb.keep | apply Sb.keepApp | apply Sb.cons | apply Sb.app))), ?_⟩
    refine xm_take 9 (m' := 1023) rfl (by kernel_rfl) (by first | exact Sb.refl | exact Sb.nil | (repeat (first | exact Sb.nil | exact Sb.refl | exact Sb.app0 | apply Sb.keep | apply Sb.keepApp | apply Sb.cons | apply Sb.app))) (rd_build rfl rfl rfl) rfl (by kernel_rfl) ?_
    refine xm_one 10 (m' := 2047) rfl (by kernel_rfl) rfl (by kernel_rfl) (ef_storeB [] _ rfl rfl (by first | rfl | assumption) rfl rfl rfl ?_)
    refine ⟨(by first | exact Sb.refl | exact Sb.nil | (repeat (first | exact Sb.nil | exact Sb.refl | exact Sb.app0 | apply Sb.keep | apply Sb.keepApp | apply Sb.cons | apply Sb.app))), ?_⟩
    refine xm_done (by kernel_rfl) ?_
    refine xq_seq ?_
    refine xc_ret ?_
  refine xq_permT [_, _] (List.perm_append_comm (l₁ := L) (l₂ := l')) (xq_retB (.inl rfl) Try.results48 rfl Kn.o0 rfl ((List.sublist_cons_self _ _).trans (List.sublist_cons_self _ _)) ⟨q', k', l', rfl, hO, rfl⟩)
end Go.Proofs.Ytohlaabclifbfaa.X
