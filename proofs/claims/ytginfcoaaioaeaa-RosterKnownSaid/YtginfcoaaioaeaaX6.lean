/-
  What is known of the types and functions of this seat's translation, as instances; written by a program of mine off the translation. No condition.
-/
import Derived.Test.YtginfcoaaioaeaaX5
import Derived.Test.YtginfcoaaioaeaaProg
import Derived.KernelRfl
namespace Go.Proofs.Ytginfcoaaioaeaa.X
open Go

instance : Inf Try.prog 1 .nilFunc 1 8 := Inf.of (by kernel_rfl) rfl
instance : Ta Try.prog 1 false := ⟨Try.isAgg1⟩
instance : Inf Try.prog 2 (.int .i64 0) 1 8 := Inf.of (by kernel_rfl) rfl
instance : Ta Try.prog 2 false := ⟨Try.isAgg2⟩
instance : Ik Try.prog 2 .i64 := ⟨Try.underlying2⟩
instance : Inf Try.prog 3 (.int .i64 0) 1 8 := Inf.of (by kernel_rfl) rfl
instance : Ta Try.prog 3 false := ⟨Try.isAgg3⟩
instance : Ik Try.prog 3 .i64 := ⟨Try.underlying3⟩
instance : Inf Try.prog 4 (.bool false) 1 1 := Inf.of (by kernel_rfl) rfl
instance : Ta Try.prog 4 false := ⟨Try.isAgg4⟩
instance : Bo Try.prog 4 := ⟨Try.underlying4⟩
instance : Inf Try.prog 5 (.int .u8 0) 1 1 := Inf.of (by kernel_rfl) rfl
instance : Ta Try.prog 5 false := ⟨Try.isAgg5⟩
instance : Ik Try.prog 5 .u8 := ⟨Try.underlying5⟩
instance : Inf Try.prog 6 (.int .u8 0) 1 1 := Inf.of (by kernel_rfl) rfl
instance : Ta Try.prog 6 false := ⟨Try.isAgg6⟩
instance : Ik Try.prog 6 .u8 := ⟨Try.underlying6⟩
instance : Inf Try.prog 7 (.agg #[(.int .i64 0), (.int .i64 0), (.bool false), (.int .u8 0)]) 4 24 := Inf.of (by kernel_rfl) rfl
instance : Ta Try.prog 7 true := ⟨Try.isAgg7⟩
instance : Pl Try.prog 7 [(0, 1), (1, 1), (2, 1), (3, 1)] := ⟨_, Try.underlying7, fun w => by kernel_rfl⟩
instance : Fd Try.prog 7 0 0 2 := ⟨_, _, Try.underlying7, rfl, rfl, rfl⟩
instance : Fd Try.prog 7 1 1 3 := ⟨_, _, Try.underlying7, rfl, rfl, rfl⟩
instance : Fd Try.prog 7 2 2 4 := ⟨_, _, Try.underlying7, rfl, rfl, rfl⟩
instance : Fd Try.prog 7 3 3 6 := ⟨_, _, Try.underlying7, rfl, rfl, rfl⟩
instance : Inf Try.prog 8 (.agg #[(.int .i64 0), (.int .i64 0), (.bool false), (.int .u8 0)]) 4 24 := Inf.of (by kernel_rfl) rfl
instance : Ta Try.prog 8 true := ⟨Try.isAgg8⟩
instance : Pl Try.prog 8 [(0, 1), (1, 1), (2, 1), (3, 1)] := ⟨_, Try.underlying8, fun w => by kernel_rfl⟩
instance : Fd Try.prog 8 0 0 2 := ⟨_, _, Try.underlying8, rfl, rfl, rfl⟩
instance : Fd Try.prog 8 1 1 3 := ⟨_, _, Try.underlying8, rfl, rfl, rfl⟩
instance : Fd Try.prog 8 2 2 4 := ⟨_, _, Try.underlying8, rfl, rfl, rfl⟩
instance : Fd Try.prog 8 3 3 6 := ⟨_, _, Try.underlying8, rfl, rfl, rfl⟩
instance : Inf Try.prog 9 (.string ⟨#[]⟩) 1 16 := Inf.of (by kernel_rfl) rfl
instance : Ta Try.prog 9 false := ⟨Try.isAgg9⟩
instance : St Try.prog 9 := ⟨Try.underlying9⟩
instance : Inf Try.prog 10 (.string ⟨#[]⟩) 1 16 := Inf.of (by kernel_rfl) rfl
instance : Ta Try.prog 10 false := ⟨Try.isAgg10⟩
instance : St Try.prog 10 := ⟨Try.underlying10⟩
instance : Inf Try.prog 11 (.string ⟨#[]⟩) 1 16 := Inf.of (by kernel_rfl) rfl
instance : Ta Try.prog 11 false := ⟨Try.isAgg11⟩
instance : St Try.prog 11 := ⟨Try.underlying11⟩
instance : Inf Try.prog 12 (.int .u64 0) 1 8 := Inf.of (by kernel_rfl) rfl
instance : Ta Try.prog 12 false := ⟨Try.isAgg12⟩
instance : Ik Try.prog 12 .u64 := ⟨Try.underlying12⟩
instance : Inf Try.prog 13 (.agg #[(.string ⟨#[]⟩), (.int .u64 0)]) 2 24 := Inf.of (by kernel_rfl) rfl
instance : Ta Try.prog 13 true := ⟨Try.isAgg13⟩
instance : Pl Try.prog 13 [(0, 1), (1, 1)] := ⟨_, Try.underlying13, fun w => by kernel_rfl⟩
instance : Fd Try.prog 13 0 0 9 := ⟨_, _, Try.underlying13, rfl, rfl, rfl⟩
instance : Fd Try.prog 13 1 1 12 := ⟨_, _, Try.underlying13, rfl, rfl, rfl⟩
instance : Inf Try.prog 14 (.agg #[(.string ⟨#[]⟩), (.int .u64 0)]) 2 24 := Inf.of (by kernel_rfl) rfl
instance : Ta Try.prog 14 true := ⟨Try.isAgg14⟩
instance : Pl Try.prog 14 [(0, 1), (1, 1)] := ⟨_, Try.underlying14, fun w => by kernel_rfl⟩
instance : Fd Try.prog 14 0 0 9 := ⟨_, _, Try.underlying14, rfl, rfl, rfl⟩
instance : Fd Try.prog 14 1 1 12 := ⟨_, _, Try.underlying14, rfl, rfl, rfl⟩
instance : Inf Try.prog 15 (.pointer none) 1 8 := Inf.of (by kernel_rfl) rfl
instance : Ta Try.prog 15 false := ⟨Try.isAgg15⟩
instance : Pn Try.prog 15 71 := ⟨Try.underlying15⟩
instance : Inf Try.prog 16 (.pointer none) 1 8 := Inf.of (by kernel_rfl) rfl
instance : Ta Try.prog 16 false := ⟨Try.isAgg16⟩
instance : Pn Try.prog 16 74 := ⟨Try.underlying16⟩
instance : Inf Try.prog 17 (.pointer none) 1 8 := Inf.of (by kernel_rfl) rfl
instance : Ta Try.prog 17 false := ⟨Try.isAgg17⟩
instance : Pn Try.prog 17 82 := ⟨Try.underlying17⟩
instance : Inf Try.prog 18 (.agg #[(.pointer none)]) 1 8 := Inf.of (by kernel_rfl) rfl
instance : Ta Try.prog 18 true := ⟨Try.isAgg18⟩
instance : Pl Try.prog 18 [(0, 1)] := ⟨_, Try.underlying18, fun w => by kernel_rfl⟩
instance : Fd Try.prog 18 0 0 17 := ⟨_, _, Try.underlying18, rfl, rfl, rfl⟩
instance : Inf Try.prog 19 (.agg #[(.pointer none)]) 1 8 := Inf.of (by kernel_rfl) rfl
instance : Ta Try.prog 19 true := ⟨Try.isAgg19⟩
instance : Pl Try.prog 19 [(0, 1)] := ⟨_, Try.underlying19, fun w => by kernel_rfl⟩
instance : Fd Try.prog 19 0 0 17 := ⟨_, _, Try.underlying19, rfl, rfl, rfl⟩
instance : Inf Try.prog 20 .nilIface 1 16 := Inf.of (by kernel_rfl) rfl
instance : Ta Try.prog 20 false := ⟨Try.isAgg20⟩
instance : Inf Try.prog 21 (.int .i32 0) 1 4 := Inf.of (by kernel_rfl) rfl
instance : Ta Try.prog 21 false := ⟨Try.isAgg21⟩
instance : Ik Try.prog 21 .i32 := ⟨Try.underlying21⟩
instance : Inf Try.prog 22 (.slice none 0 0) 1 24 := Inf.of (by kernel_rfl) rfl
instance : Ta Try.prog 22 false := ⟨Try.isAgg22⟩
instance : Sl Try.prog 22 33 := ⟨Try.underlying22⟩
instance : Inf Try.prog 23 (.pointer none) 1 8 := Inf.of (by kernel_rfl) rfl
instance : Ta Try.prog 23 false := ⟨Try.isAgg23⟩
instance : Pn Try.prog 23 59 := ⟨Try.underlying23⟩
instance : Inf Try.prog 24 (.int .i64 0) 1 8 := Inf.of (by kernel_rfl) rfl
instance : Ta Try.prog 24 false := ⟨Try.isAgg24⟩
instance : Ik Try.prog 24 .i64 := ⟨Try.underlying24⟩
instance : Inf Try.prog 26 .nilFunc 1 8 := Inf.of (by kernel_rfl) rfl
instance : Ta Try.prog 26 false := ⟨Try.isAgg26⟩
instance : Inf Try.prog 27 .nilFunc 1 8 := Inf.of (by kernel_rfl) rfl
instance : Ta Try.prog 27 false := ⟨Try.isAgg27⟩
instance : Inf Try.prog 28 (.slice none 0 0) 1 24 := Inf.of (by kernel_rfl) rfl
instance : Ta Try.prog 28 false := ⟨Try.isAgg28⟩
instance : Sl Try.prog 28 31 := ⟨Try.underlying28⟩
instance : Inf Try.prog 29 (.int .u32 0) 1 4 := Inf.of (by kernel_rfl) rfl
instance : Ta Try.prog 29 false := ⟨Try.isAgg29⟩
instance : Ik Try.prog 29 .u32 := ⟨Try.underlying29⟩
instance : Inf Try.prog 30 (.agg #[(.int .i64 0), (.int .u32 0), (.int .u32 0), (.bool false)]) 4 24 := Inf.of (by kernel_rfl) rfl
instance : Ta Try.prog 30 true := ⟨Try.isAgg30⟩
instance : Pl Try.prog 30 [(0, 1), (1, 1), (2, 1), (3, 1)] := ⟨_, Try.underlying30, fun w => by kernel_rfl⟩
instance : Fd Try.prog 30 0 0 3 := ⟨_, _, Try.underlying30, rfl, rfl, rfl⟩
instance : Fd Try.prog 30 1 1 29 := ⟨_, _, Try.underlying30, rfl, rfl, rfl⟩
instance : Fd Try.prog 30 2 2 29 := ⟨_, _, Try.underlying30, rfl, rfl, rfl⟩
instance : Fd Try.prog 30 3 3 4 := ⟨_, _, Try.underlying30, rfl, rfl, rfl⟩
instance : Inf Try.prog 31 (.agg #[(.int .i64 0), (.int .u32 0), (.int .u32 0), (.bool false)]) 4 24 := Inf.of (by kernel_rfl) rfl
instance : Ta Try.prog 31 true := ⟨Try.isAgg31⟩
instance : Pl Try.prog 31 [(0, 1), (1, 1), (2, 1), (3, 1)] := ⟨_, Try.underlying31, fun w => by kernel_rfl⟩
instance : Fd Try.prog 31 0 0 3 := ⟨_, _, Try.underlying31, rfl, rfl, rfl⟩
instance : Fd Try.prog 31 1 1 29 := ⟨_, _, Try.underlying31, rfl, rfl, rfl⟩
instance : Fd Try.prog 31 2 2 29 := ⟨_, _, Try.underlying31, rfl, rfl, rfl⟩
instance : Fd Try.prog 31 3 3 4 := ⟨_, _, Try.underlying31, rfl, rfl, rfl⟩
instance : Inf Try.prog 32 (.agg #[(.bool false), (.int .i64 0), (.int .u32 0), (.int .u32 0), (.bool false)]) 5 32 := Inf.of (by kernel_rfl) rfl
instance : Ta Try.prog 32 true := ⟨Try.isAgg32⟩
instance : Pl Try.prog 32 [(0, 1), (1, 4)] := ⟨_, Try.underlying32, fun w => by kernel_rfl⟩
instance : Fd Try.prog 32 0 0 4 := ⟨_, _, Try.underlying32, rfl, rfl, rfl⟩
instance : Fd Try.prog 32 1 1 31 := ⟨_, _, Try.underlying32, rfl, rfl, rfl⟩
instance : Inf Try.prog 33 (.agg #[(.bool false), (.int .i64 0), (.int .u32 0), (.int .u32 0), (.bool false)]) 5 32 := Inf.of (by kernel_rfl) rfl
instance : Ta Try.prog 33 true := ⟨Try.isAgg33⟩
instance : Pl Try.prog 33 [(0, 1), (1, 4)] := ⟨_, Try.underlying33, fun w => by kernel_rfl⟩
instance : Fd Try.prog 33 0 0 4 := ⟨_, _, Try.underlying33, rfl, rfl, rfl⟩
instance : Fd Try.prog 33 1 1 31 := ⟨_, _, Try.underlying33, rfl, rfl, rfl⟩
instance : Inf Try.prog 35 .nilFunc 1 8 := Inf.of (by kernel_rfl) rfl
instance : Ta Try.prog 35 false := ⟨Try.isAgg35⟩
instance : Inf Try.prog 36 .nilFunc 1 8 := Inf.of (by kernel_rfl) rfl
instance : Ta Try.prog 36 false := ⟨Try.isAgg36⟩
instance : Inf Try.prog 38 .nilFunc 1 8 := Inf.of (by kernel_rfl) rfl
instance : Ta Try.prog 38 false := ⟨Try.isAgg38⟩
instance : Inf Try.prog 39 .nilFunc 1 8 := Inf.of (by kernel_rfl) rfl
instance : Ta Try.prog 39 false := ⟨Try.isAgg39⟩
instance : Inf Try.prog 40 .nilFunc 1 8 := Inf.of (by kernel_rfl) rfl
instance : Ta Try.prog 40 false := ⟨Try.isAgg40⟩
instance : Inf Try.prog 41 .nilFunc 1 8 := Inf.of (by kernel_rfl) rfl
instance : Ta Try.prog 41 false := ⟨Try.isAgg41⟩
instance : Inf Try.prog 42 (.slice none 0 0) 1 24 := Inf.of (by kernel_rfl) rfl
instance : Ta Try.prog 42 false := ⟨Try.isAgg42⟩
instance : Sl Try.prog 42 49 := ⟨Try.underlying42⟩
instance : Inf Try.prog 43 (.agg #[(.int .i64 0), (.slice none 0 0)]) 2 32 := Inf.of (by kernel_rfl) rfl
instance : Ta Try.prog 43 true := ⟨Try.isAgg43⟩
instance : Pl Try.prog 43 [(0, 1), (1, 1)] := ⟨_, Try.underlying43, fun w => by kernel_rfl⟩
instance : Fd Try.prog 43 0 0 3 := ⟨_, _, Try.underlying43, rfl, rfl, rfl⟩
instance : Fd Try.prog 43 1 1 42 := ⟨_, _, Try.underlying43, rfl, rfl, rfl⟩
instance : Inf Try.prog 44 (.agg #[(.int .i64 0), (.slice none 0 0)]) 2 32 := Inf.of (by kernel_rfl) rfl
instance : Ta Try.prog 44 true := ⟨Try.isAgg44⟩
instance : Pl Try.prog 44 [(0, 1), (1, 1)] := ⟨_, Try.underlying44, fun w => by kernel_rfl⟩
instance : Fd Try.prog 44 0 0 3 := ⟨_, _, Try.underlying44, rfl, rfl, rfl⟩
instance : Fd Try.prog 44 1 1 42 := ⟨_, _, Try.underlying44, rfl, rfl, rfl⟩
instance : Inf Try.prog 46 .nilFunc 1 8 := Inf.of (by kernel_rfl) rfl
instance : Ta Try.prog 46 false := ⟨Try.isAgg46⟩
instance : Inf Try.prog 47 .nilFunc 1 8 := Inf.of (by kernel_rfl) rfl
instance : Ta Try.prog 47 false := ⟨Try.isAgg47⟩
instance : Inf Try.prog 48 .nilFunc 1 8 := Inf.of (by kernel_rfl) rfl
instance : Ta Try.prog 48 false := ⟨Try.isAgg48⟩
instance : Inf Try.prog 49 (.agg #[(.int .i64 0), (.int .u32 0), (.int .u32 0), (.bool false)]) 4 24 := Inf.of (by kernel_rfl) rfl
instance : Ta Try.prog 49 true := ⟨Try.isAgg49⟩
instance : Pl Try.prog 49 [(0, 1), (1, 1), (2, 1), (3, 1)] := ⟨_, Try.underlying49, fun w => by kernel_rfl⟩
instance : Fd Try.prog 49 0 0 3 := ⟨_, _, Try.underlying49, rfl, rfl, rfl⟩
instance : Fd Try.prog 49 1 1 29 := ⟨_, _, Try.underlying49, rfl, rfl, rfl⟩
instance : Fd Try.prog 49 2 2 29 := ⟨_, _, Try.underlying49, rfl, rfl, rfl⟩
instance : Fd Try.prog 49 3 3 4 := ⟨_, _, Try.underlying49, rfl, rfl, rfl⟩
instance : Inf Try.prog 50 .nilFunc 1 8 := Inf.of (by kernel_rfl) rfl
instance : Ta Try.prog 50 false := ⟨Try.isAgg50⟩
instance : Inf Try.prog 51 .nilFunc 1 8 := Inf.of (by kernel_rfl) rfl
instance : Ta Try.prog 51 false := ⟨Try.isAgg51⟩
instance : Inf Try.prog 52 .nilFunc 1 8 := Inf.of (by kernel_rfl) rfl
instance : Ta Try.prog 52 false := ⟨Try.isAgg52⟩
instance : Inf Try.prog 53 (.slice none 0 0) 1 24 := Inf.of (by kernel_rfl) rfl
instance : Ta Try.prog 53 false := ⟨Try.isAgg53⟩
instance : Sl Try.prog 53 3 := ⟨Try.underlying53⟩
instance : Inf Try.prog 54 .nilFunc 1 8 := Inf.of (by kernel_rfl) rfl
instance : Ta Try.prog 54 false := ⟨Try.isAgg54⟩
instance : Inf Try.prog 55 .nilFunc 1 8 := Inf.of (by kernel_rfl) rfl
instance : Ta Try.prog 55 false := ⟨Try.isAgg55⟩
instance : Inf Try.prog 56 .nilFunc 1 8 := Inf.of (by kernel_rfl) rfl
instance : Ta Try.prog 56 false := ⟨Try.isAgg56⟩
instance : Inf Try.prog 57 (.map none) 1 8 := Inf.of (by kernel_rfl) rfl
instance : Ta Try.prog 57 false := ⟨Try.isAgg57⟩
instance : Mp Try.prog 57 29 3 := ⟨Try.underlying57⟩
instance : Inf Try.prog 58 (.agg #[(.int .i64 0), (.slice none 0 0), (.map none)]) 3 40 := Inf.of (by kernel_rfl) rfl
instance : Ta Try.prog 58 true := ⟨Try.isAgg58⟩
instance : Pl Try.prog 58 [(0, 1), (1, 1), (2, 1)] := ⟨_, Try.underlying58, fun w => by kernel_rfl⟩
instance : Fd Try.prog 58 0 0 3 := ⟨_, _, Try.underlying58, rfl, rfl, rfl⟩
instance : Fd Try.prog 58 1 1 28 := ⟨_, _, Try.underlying58, rfl, rfl, rfl⟩
instance : Fd Try.prog 58 2 2 57 := ⟨_, _, Try.underlying58, rfl, rfl, rfl⟩
instance : Inf Try.prog 59 (.agg #[(.int .i64 0), (.slice none 0 0), (.map none)]) 3 40 := Inf.of (by kernel_rfl) rfl
instance : Ta Try.prog 59 true := ⟨Try.isAgg59⟩
instance : Pl Try.prog 59 [(0, 1), (1, 1), (2, 1)] := ⟨_, Try.underlying59, fun w => by kernel_rfl⟩
instance : Fd Try.prog 59 0 0 3 := ⟨_, _, Try.underlying59, rfl, rfl, rfl⟩
instance : Fd Try.prog 59 1 1 28 := ⟨_, _, Try.underlying59, rfl, rfl, rfl⟩
instance : Fd Try.prog 59 2 2 57 := ⟨_, _, Try.underlying59, rfl, rfl, rfl⟩
instance : Inf Try.prog 60 .nilFunc 1 8 := Inf.of (by kernel_rfl) rfl
instance : Ta Try.prog 60 false := ⟨Try.isAgg60⟩
instance : Inf Try.prog 61 .nilFunc 1 8 := Inf.of (by kernel_rfl) rfl
instance : Ta Try.prog 61 false := ⟨Try.isAgg61⟩
instance : Inf Try.prog 63 .nilFunc 1 8 := Inf.of (by kernel_rfl) rfl
instance : Ta Try.prog 63 false := ⟨Try.isAgg63⟩
instance : Inf Try.prog 65 .nilFunc 1 8 := Inf.of (by kernel_rfl) rfl
instance : Ta Try.prog 65 false := ⟨Try.isAgg65⟩
instance : Inf Try.prog 67 .nilFunc 1 8 := Inf.of (by kernel_rfl) rfl
instance : Ta Try.prog 67 false := ⟨Try.isAgg67⟩
instance : Inf Try.prog 68 .nilFunc 1 8 := Inf.of (by kernel_rfl) rfl
instance : Ta Try.prog 68 false := ⟨Try.isAgg68⟩
instance : Inf Try.prog 69 .nilFunc 1 8 := Inf.of (by kernel_rfl) rfl
instance : Ta Try.prog 69 false := ⟨Try.isAgg69⟩
instance : Inf Try.prog 70 (.agg #[(.pointer none), (.pointer none), (.pointer none), (.string ⟨#[]⟩)]) 4 40 := Inf.of (by kernel_rfl) rfl
instance : Ta Try.prog 70 true := ⟨Try.isAgg70⟩
instance : Pl Try.prog 70 [(0, 1), (1, 1), (2, 1), (3, 1)] := ⟨_, Try.underlying70, fun w => by kernel_rfl⟩
instance : Fd Try.prog 70 0 0 17 := ⟨_, _, Try.underlying70, rfl, rfl, rfl⟩
instance : Fd Try.prog 70 1 1 17 := ⟨_, _, Try.underlying70, rfl, rfl, rfl⟩
instance : Fd Try.prog 70 2 2 17 := ⟨_, _, Try.underlying70, rfl, rfl, rfl⟩
instance : Fd Try.prog 70 3 3 9 := ⟨_, _, Try.underlying70, rfl, rfl, rfl⟩
instance : Inf Try.prog 71 (.agg #[(.pointer none), (.pointer none), (.pointer none), (.string ⟨#[]⟩)]) 4 40 := Inf.of (by kernel_rfl) rfl
instance : Ta Try.prog 71 true := ⟨Try.isAgg71⟩
instance : Pl Try.prog 71 [(0, 1), (1, 1), (2, 1), (3, 1)] := ⟨_, Try.underlying71, fun w => by kernel_rfl⟩
instance : Fd Try.prog 71 0 0 17 := ⟨_, _, Try.underlying71, rfl, rfl, rfl⟩
instance : Fd Try.prog 71 1 1 17 := ⟨_, _, Try.underlying71, rfl, rfl, rfl⟩
instance : Fd Try.prog 71 2 2 17 := ⟨_, _, Try.underlying71, rfl, rfl, rfl⟩
instance : Fd Try.prog 71 3 3 9 := ⟨_, _, Try.underlying71, rfl, rfl, rfl⟩
instance : Inf Try.prog 72 (.agg #[]) 0 0 := Inf.of (by kernel_rfl) rfl
instance : Ta Try.prog 72 true := ⟨Try.isAgg72⟩
instance : Ar Try.prog 72 0 16 := ⟨Try.underlying72⟩
instance : Inf Try.prog 73 (.agg #[]) 0 0 := Inf.of (by kernel_rfl) rfl
instance : Ta Try.prog 73 true := ⟨Try.isAgg73⟩
instance : Pl Try.prog 73 [(0, 0)] := ⟨_, Try.underlying73, fun w => by kernel_rfl⟩
instance : Fd Try.prog 73 0 0 72 := ⟨_, _, Try.underlying73, rfl, rfl, rfl⟩
instance : Inf Try.prog 74 (.agg #[]) 0 0 := Inf.of (by kernel_rfl) rfl
instance : Ta Try.prog 74 true := ⟨Try.isAgg74⟩
instance : Pl Try.prog 74 [(0, 0)] := ⟨_, Try.underlying74, fun w => by kernel_rfl⟩
instance : Fd Try.prog 74 0 0 72 := ⟨_, _, Try.underlying74, rfl, rfl, rfl⟩
instance : Inf Try.prog 75 (.int .u8 0) 1 1 := Inf.of (by kernel_rfl) rfl
instance : Ta Try.prog 75 false := ⟨Try.isAgg75⟩
instance : Ik Try.prog 75 .u8 := ⟨Try.underlying75⟩
instance : Inf Try.prog 76 (.int .u8 0) 1 1 := Inf.of (by kernel_rfl) rfl
instance : Ta Try.prog 76 false := ⟨Try.isAgg76⟩
instance : Ik Try.prog 76 .u8 := ⟨Try.underlying76⟩
instance : Inf Try.prog 77 .nilFunc 1 8 := Inf.of (by kernel_rfl) rfl
instance : Ta Try.prog 77 false := ⟨Try.isAgg77⟩
instance : Inf Try.prog 78 (.pointer none) 1 8 := Inf.of (by kernel_rfl) rfl
instance : Ta Try.prog 78 false := ⟨Try.isAgg78⟩
instance : Pn Try.prog 78 5 := ⟨Try.underlying78⟩
instance : Inf Try.prog 79 (.int .i32 0) 1 4 := Inf.of (by kernel_rfl) rfl
instance : Ta Try.prog 79 false := ⟨Try.isAgg79⟩
instance : Ik Try.prog 79 .i32 := ⟨Try.underlying79⟩
instance : Inf Try.prog 80 (.int .i32 0) 1 4 := Inf.of (by kernel_rfl) rfl
instance : Ta Try.prog 80 false := ⟨Try.isAgg80⟩
instance : Ik Try.prog 80 .i32 := ⟨Try.underlying80⟩
instance : Inf Try.prog 81 (.agg #[(.int .u64 0), (.int .u64 0), (.int .u32 0), (.int .u8 0), (.int .u8 0), (.int .u8 0), (.int .u8 0), .nilFunc, (.pointer none), (.int .i32 0), (.int .i32 0)]) 11 48 := Inf.of (by kernel_rfl) rfl
instance : Ta Try.prog 81 true := ⟨Try.isAgg81⟩
instance : Pl Try.prog 81 [(0, 1), (1, 1), (2, 1), (3, 1), (4, 1), (5, 1), (6, 1), (7, 1), (8, 1), (9, 1), (10, 1)] := ⟨_, Try.underlying81, fun w => by kernel_rfl⟩
instance : Fd Try.prog 81 0 0 12 := ⟨_, _, Try.underlying81, rfl, rfl, rfl⟩
instance : Fd Try.prog 81 1 1 12 := ⟨_, _, Try.underlying81, rfl, rfl, rfl⟩
instance : Fd Try.prog 81 2 2 29 := ⟨_, _, Try.underlying81, rfl, rfl, rfl⟩
instance : Fd Try.prog 81 3 3 75 := ⟨_, _, Try.underlying81, rfl, rfl, rfl⟩
instance : Fd Try.prog 81 4 4 5 := ⟨_, _, Try.underlying81, rfl, rfl, rfl⟩
instance : Fd Try.prog 81 5 5 5 := ⟨_, _, Try.underlying81, rfl, rfl, rfl⟩
instance : Fd Try.prog 81 6 6 76 := ⟨_, _, Try.underlying81, rfl, rfl, rfl⟩
instance : Fd Try.prog 81 7 7 77 := ⟨_, _, Try.underlying81, rfl, rfl, rfl⟩
instance : Fd Try.prog 81 8 8 78 := ⟨_, _, Try.underlying81, rfl, rfl, rfl⟩
instance : Fd Try.prog 81 9 9 79 := ⟨_, _, Try.underlying81, rfl, rfl, rfl⟩
instance : Fd Try.prog 81 10 10 80 := ⟨_, _, Try.underlying81, rfl, rfl, rfl⟩
instance : Inf Try.prog 82 (.agg #[(.int .u64 0), (.int .u64 0), (.int .u32 0), (.int .u8 0), (.int .u8 0), (.int .u8 0), (.int .u8 0), .nilFunc, (.pointer none), (.int .i32 0), (.int .i32 0)]) 11 48 := Inf.of (by kernel_rfl) rfl
instance : Ta Try.prog 82 true := ⟨Try.isAgg82⟩
instance : Pl Try.prog 82 [(0, 1), (1, 1), (2, 1), (3, 1), (4, 1), (5, 1), (6, 1), (7, 1), (8, 1), (9, 1), (10, 1)] := ⟨_, Try.underlying82, fun w => by kernel_rfl⟩
instance : Fd Try.prog 82 0 0 12 := ⟨_, _, Try.underlying82, rfl, rfl, rfl⟩
instance : Fd Try.prog 82 1 1 12 := ⟨_, _, Try.underlying82, rfl, rfl, rfl⟩
instance : Fd Try.prog 82 2 2 29 := ⟨_, _, Try.underlying82, rfl, rfl, rfl⟩
instance : Fd Try.prog 82 3 3 75 := ⟨_, _, Try.underlying82, rfl, rfl, rfl⟩
instance : Fd Try.prog 82 4 4 5 := ⟨_, _, Try.underlying82, rfl, rfl, rfl⟩
instance : Fd Try.prog 82 5 5 5 := ⟨_, _, Try.underlying82, rfl, rfl, rfl⟩
instance : Fd Try.prog 82 6 6 76 := ⟨_, _, Try.underlying82, rfl, rfl, rfl⟩
instance : Fd Try.prog 82 7 7 77 := ⟨_, _, Try.underlying82, rfl, rfl, rfl⟩
instance : Fd Try.prog 82 8 8 78 := ⟨_, _, Try.underlying82, rfl, rfl, rfl⟩
instance : Fd Try.prog 82 9 9 79 := ⟨_, _, Try.underlying82, rfl, rfl, rfl⟩
instance : Fd Try.prog 82 10 10 80 := ⟨_, _, Try.underlying82, rfl, rfl, rfl⟩
instance : Inf Try.prog 83 (.pointer none) 1 8 := Inf.of (by kernel_rfl) rfl
instance : Ta Try.prog 83 false := ⟨Try.isAgg83⟩
instance : Cf Try.prog 2 := ⟨Try.call2⟩
instance : Cf Try.prog 3 := ⟨Try.call3⟩
instance : Cf Try.prog 4 := ⟨Try.call4⟩
instance : Cf Try.prog 5 := ⟨Try.call5⟩
instance : Cf Try.prog 6 := ⟨Try.call6⟩
instance : Cf Try.prog 7 := ⟨Try.call7⟩
instance : Cf Try.prog 8 := ⟨Try.call8⟩
instance : Cf Try.prog 9 := ⟨Try.call9⟩
instance : Cf Try.prog 10 := ⟨Try.call10⟩
instance : Cf Try.prog 11 := ⟨Try.call11⟩
instance : Cf Try.prog 12 := ⟨Try.call12⟩
instance : Cf Try.prog 13 := ⟨Try.call13⟩
instance : Cf Try.prog 14 := ⟨Try.call14⟩
instance : Cf Try.prog 15 := ⟨Try.call15⟩
instance : Cf Try.prog 16 := ⟨Try.call16⟩
instance : Cf Try.prog 17 := ⟨Try.call17⟩
instance : Cf Try.prog 18 := ⟨Try.call18⟩
instance : Cf Try.prog 19 := ⟨Try.call19⟩
instance : Cf Try.prog 20 := ⟨Try.call20⟩
instance : Cf Try.prog 21 := ⟨Try.call21⟩
instance : Cf Try.prog 22 := ⟨Try.call22⟩
instance : Cf Try.prog 23 := ⟨Try.call23⟩
instance : Cf Try.prog 24 := ⟨Try.call24⟩
instance : Cf Try.prog 25 := ⟨Try.call25⟩
instance : Cf Try.prog 26 := ⟨Try.call26⟩
instance : Cf Try.prog 27 := ⟨Try.call27⟩
instance : Mx Try.prog := ⟨by kernel_rfl⟩
end Go.Proofs.Ytginfcoaaioaeaa.X
