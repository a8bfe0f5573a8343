/-
  Texts of my own, put together: walks and laws for this seat. No condition.
-/
import Derived.Test.YtoolgphkfnkajaaM1
import Derived.Test.YtoolgphkfnkajaaProg
import Derived.KernelRfl
import Derived.Laws.Cover3
import Derived.Laws.Externs
/-
  What is known of the types and functions of this seat's translation, as instances; written by a program of mine off the translation. No condition.
-/
namespace Go.Proofs.Ytoolgphkfnkajaa.X
open Go

instance : Inf Try.prog 1 .nilFunc 1 8 := Inf.of (by kernel_rfl) rfl
instance : Ta Try.prog 1 false := ⟨Try.isAgg1⟩
instance : Inf Try.prog 2 (.int .i64 0) 1 8 := Inf.of (by kernel_rfl) rfl
instance : Ta Try.prog 2 false := ⟨Try.isAgg2⟩
instance : Ik Try.prog 2 .i64 := ⟨Try.underlying2⟩
instance : Inf Try.prog 3 (.int .i64 0) 1 8 := Inf.of (by kernel_rfl) rfl
instance : Ta Try.prog 3 false := ⟨Try.isAgg3⟩
instance : Ik Try.prog 3 .i64 := ⟨Try.underlying3⟩
instance : Inf Try.prog 4 (.bool false) 1 1 := Inf.of (by kernel_rfl) rfl
instance : Ta Try.prog 4 false := ⟨Try.isAgg4⟩
instance : Bo Try.prog 4 := ⟨Try.underlying4⟩
instance : Inf Try.prog 5 (.int .u8 0) 1 1 := Inf.of (by kernel_rfl) rfl
instance : Ta Try.prog 5 false := ⟨Try.isAgg5⟩
instance : Ik Try.prog 5 .u8 := ⟨Try.underlying5⟩
instance : Inf Try.prog 6 (.int .u8 0) 1 1 := Inf.of (by kernel_rfl) rfl
instance : Ta Try.prog 6 false := ⟨Try.isAgg6⟩
instance : Ik Try.prog 6 .u8 := ⟨Try.underlying6⟩
instance : Inf Try.prog 7 (.agg #[(.int .i64 0), (.int .i64 0), (.bool false), (.int .u8 0)]) 4 24 := Inf.of (by kernel_rfl) rfl
instance : Ta Try.prog 7 true := ⟨Try.isAgg7⟩
instance : Pl Try.prog 7 [(0, 1), (1, 1), (2, 1), (3, 1)] := ⟨_, Try.underlying7, fun w => by kernel_rfl⟩
instance : Fd Try.prog 7 0 0 2 := ⟨_, _, Try.underlying7, rfl, rfl, rfl⟩
instance : Fd Try.prog 7 1 1 3 := ⟨_, _, Try.underlying7, rfl, rfl, rfl⟩
instance : Fd Try.prog 7 2 2 4 := ⟨_, _, Try.underlying7, rfl, rfl, rfl⟩
instance : Fd Try.prog 7 3 3 6 := ⟨_, _, Try.underlying7, rfl, rfl, rfl⟩
instance : Inf Try.prog 8 (.agg #[(.int .i64 0), (.int .i64 0), (.bool false), (.int .u8 0)]) 4 24 := Inf.of (by kernel_rfl) rfl
instance : Ta Try.prog 8 true := ⟨Try.isAgg8⟩
instance : Pl Try.prog 8 [(0, 1), (1, 1), (2, 1), (3, 1)] := ⟨_, Try.underlying8, fun w => by kernel_rfl⟩
instance : Fd Try.prog 8 0 0 2 := ⟨_, _, Try.underlying8, rfl, rfl, rfl⟩
instance : Fd Try.prog 8 1 1 3 := ⟨_, _, Try.underlying8, rfl, rfl, rfl⟩
instance : Fd Try.prog 8 2 2 4 := ⟨_, _, Try.underlying8, rfl, rfl, rfl⟩
instance : Fd Try.prog 8 3 3 6 := ⟨_, _, Try.underlying8, rfl, rfl, rfl⟩
instance : Inf Try.prog 9 (.string ⟨#[]⟩) 1 16 := Inf.of (by kernel_rfl) rfl
instance : Ta Try.prog 9 false := ⟨Try.isAgg9⟩
instance : St Try.prog 9 := ⟨Try.underlying9⟩
instance : Inf Try.prog 10 (.string ⟨#[]⟩) 1 16 := Inf.of (by kernel_rfl) rfl
instance : Ta Try.prog 10 false := ⟨Try.isAgg10⟩
instance : St Try.prog 10 := ⟨Try.underlying10⟩
instance : Inf Try.prog 11 (.string ⟨#[]⟩) 1 16 := Inf.of (by kernel_rfl) rfl
instance : Ta Try.prog 11 false := ⟨Try.isAgg11⟩
instance : St Try.prog 11 := ⟨Try.underlying11⟩
instance : Inf Try.prog 12 (.int .u64 0) 1 8 := Inf.of (by kernel_rfl) rfl
instance : Ta Try.prog 12 false := ⟨Try.isAgg12⟩
instance : Ik Try.prog 12 .u64 := ⟨Try.underlying12⟩
instance : Inf Try.prog 13 (.agg #[(.string ⟨#[]⟩), (.int .u64 0)]) 2 24 := Inf.of (by kernel_rfl) rfl
instance : Ta Try.prog 13 true := ⟨Try.isAgg13⟩
instance : Pl Try.prog 13 [(0, 1), (1, 1)] := ⟨_, Try.underlying13, fun w => by kernel_rfl⟩
instance : Fd Try.prog 13 0 0 9 := ⟨_, _, Try.underlying13, rfl, rfl, rfl⟩
instance : Fd Try.prog 13 1 1 12 := ⟨_, _, Try.underlying13, rfl, rfl, rfl⟩
instance : Inf Try.prog 14 (.agg #[(.string ⟨#[]⟩), (.int .u64 0)]) 2 24 := Inf.of (by kernel_rfl) rfl
instance : Ta Try.prog 14 true := ⟨Try.isAgg14⟩
instance : Pl Try.prog 14 [(0, 1), (1, 1)] := ⟨_, Try.underlying14, fun w => by kernel_rfl⟩
instance : Fd Try.prog 14 0 0 9 := ⟨_, _, Try.underlying14, rfl, rfl, rfl⟩
instance : Fd Try.prog 14 1 1 12 := ⟨_, _, Try.underlying14, rfl, rfl, rfl⟩
instance : Inf Try.prog 15 (.pointer none) 1 8 := Inf.of (by kernel_rfl) rfl
instance : Ta Try.prog 15 false := ⟨Try.isAgg15⟩
instance : Pn Try.prog 15 110 := ⟨Try.underlying15⟩
instance : Inf Try.prog 16 (.pointer none) 1 8 := Inf.of (by kernel_rfl) rfl
instance : Ta Try.prog 16 false := ⟨Try.isAgg16⟩
instance : Pn Try.prog 16 113 := ⟨Try.underlying16⟩
instance : Inf Try.prog 17 (.pointer none) 1 8 := Inf.of (by kernel_rfl) rfl
instance : Ta Try.prog 17 false := ⟨Try.isAgg17⟩
instance : Pn Try.prog 17 122 := ⟨Try.underlying17⟩
instance : Inf Try.prog 18 (.agg #[(.pointer none)]) 1 8 := Inf.of (by kernel_rfl) rfl
instance : Ta Try.prog 18 true := ⟨Try.isAgg18⟩
instance : Pl Try.prog 18 [(0, 1)] := ⟨_, Try.underlying18, fun w => by kernel_rfl⟩
instance : Fd Try.prog 18 0 0 17 := ⟨_, _, Try.underlying18, rfl, rfl, rfl⟩
instance : Inf Try.prog 19 (.agg #[(.pointer none)]) 1 8 := Inf.of (by kernel_rfl) rfl
instance : Ta Try.prog 19 true := ⟨Try.isAgg19⟩
instance : Pl Try.prog 19 [(0, 1)] := ⟨_, Try.underlying19, fun w => by kernel_rfl⟩
instance : Fd Try.prog 19 0 0 17 := ⟨_, _, Try.underlying19, rfl, rfl, rfl⟩
instance : Inf Try.prog 20 .nilIface 1 16 := Inf.of (by kernel_rfl) rfl
instance : Ta Try.prog 20 false := ⟨Try.isAgg20⟩
instance : Inf Try.prog 21 (.int .i32 0) 1 4 := Inf.of (by kernel_rfl) rfl
instance : Ta Try.prog 21 false := ⟨Try.isAgg21⟩
instance : Ik Try.prog 21 .i32 := ⟨Try.underlying21⟩
instance : Inf Try.prog 22 (.int .u64 0) 1 8 := Inf.of (by kernel_rfl) rfl
instance : Ta Try.prog 22 false := ⟨Try.isAgg22⟩
instance : Ik Try.prog 22 .u64 := ⟨Try.underlying22⟩
instance : Inf Try.prog 23 (.slice none 0 0) 1 24 := Inf.of (by kernel_rfl) rfl
instance : Ta Try.prog 23 false := ⟨Try.isAgg23⟩
instance : Sl Try.prog 23 33 := ⟨Try.underlying23⟩
instance : Inf Try.prog 24 .nilFunc 1 8 := Inf.of (by kernel_rfl) rfl
instance : Ta Try.prog 24 false := ⟨Try.isAgg24⟩
instance : Inf Try.prog 25 (.pointer none) 1 8 := Inf.of (by kernel_rfl) rfl
instance : Ta Try.prog 25 false := ⟨Try.isAgg25⟩
instance : Pn Try.prog 25 48 := ⟨Try.underlying25⟩
instance : Inf Try.prog 26 (.int .i64 0) 1 8 := Inf.of (by kernel_rfl) rfl
instance : Ta Try.prog 26 false := ⟨Try.isAgg26⟩
instance : Ik Try.prog 26 .i64 := ⟨Try.underlying26⟩
instance : Inf Try.prog 28 .nilFunc 1 8 := Inf.of (by kernel_rfl) rfl
instance : Ta Try.prog 28 false := ⟨Try.isAgg28⟩
instance : Inf Try.prog 29 (.slice none 0 0) 1 24 := Inf.of (by kernel_rfl) rfl
instance : Ta Try.prog 29 false := ⟨Try.isAgg29⟩
instance : Sl Try.prog 29 22 := ⟨Try.underlying29⟩
instance : Inf Try.prog 30 (.int .u32 0) 1 4 := Inf.of (by kernel_rfl) rfl
instance : Ta Try.prog 30 false := ⟨Try.isAgg30⟩
instance : Ik Try.prog 30 .u32 := ⟨Try.underlying30⟩
instance : Inf Try.prog 31 (.int .u16 0) 1 2 := Inf.of (by kernel_rfl) rfl
instance : Ta Try.prog 31 false := ⟨Try.isAgg31⟩
instance : Ik Try.prog 31 .u16 := ⟨Try.underlying31⟩
instance : Inf Try.prog 32 (.agg #[(.int .i64 0), (.int .u32 0), (.int .u16 0)]) 3 16 := Inf.of (by kernel_rfl) rfl
instance : Ta Try.prog 32 true := ⟨Try.isAgg32⟩
instance : Pl Try.prog 32 [(0, 1), (1, 1), (2, 1)] := ⟨_, Try.underlying32, fun w => by kernel_rfl⟩
instance : Fd Try.prog 32 0 0 3 := ⟨_, _, Try.underlying32, rfl, rfl, rfl⟩
instance : Fd Try.prog 32 1 1 30 := ⟨_, _, Try.underlying32, rfl, rfl, rfl⟩
instance : Fd Try.prog 32 2 2 31 := ⟨_, _, Try.underlying32, rfl, rfl, rfl⟩
instance : Inf Try.prog 33 (.agg #[(.int .i64 0), (.int .u32 0), (.int .u16 0)]) 3 16 := Inf.of (by kernel_rfl) rfl
instance : Ta Try.prog 33 true := ⟨Try.isAgg33⟩
instance : Pl Try.prog 33 [(0, 1), (1, 1), (2, 1)] := ⟨_, Try.underlying33, fun w => by kernel_rfl⟩
instance : Fd Try.prog 33 0 0 3 := ⟨_, _, Try.underlying33, rfl, rfl, rfl⟩
instance : Fd Try.prog 33 1 1 30 := ⟨_, _, Try.underlying33, rfl, rfl, rfl⟩
instance : Fd Try.prog 33 2 2 31 := ⟨_, _, Try.underlying33, rfl, rfl, rfl⟩
instance : Inf Try.prog 34 (.slice none 0 0) 1 24 := Inf.of (by kernel_rfl) rfl
instance : Ta Try.prog 34 false := ⟨Try.isAgg34⟩
instance : Sl Try.prog 34 30 := ⟨Try.underlying34⟩
instance : Inf Try.prog 35 .nilFunc 1 8 := Inf.of (by kernel_rfl) rfl
instance : Ta Try.prog 35 false := ⟨Try.isAgg35⟩
instance : Inf Try.prog 36 .nilFunc 1 8 := Inf.of (by kernel_rfl) rfl
instance : Ta Try.prog 36 false := ⟨Try.isAgg36⟩
instance : Inf Try.prog 37 .nilFunc 1 8 := Inf.of (by kernel_rfl) rfl
instance : Ta Try.prog 37 false := ⟨Try.isAgg37⟩
instance : Inf Try.prog 38 .nilFunc 1 8 := Inf.of (by kernel_rfl) rfl
instance : Ta Try.prog 38 false := ⟨Try.isAgg38⟩
instance : Inf Try.prog 39 .nilFunc 1 8 := Inf.of (by kernel_rfl) rfl
instance : Ta Try.prog 39 false := ⟨Try.isAgg39⟩
instance : Inf Try.prog 41 .nilFunc 1 8 := Inf.of (by kernel_rfl) rfl
instance : Ta Try.prog 41 false := ⟨Try.isAgg41⟩
instance : Inf Try.prog 42 .nilFunc 1 8 := Inf.of (by kernel_rfl) rfl
instance : Ta Try.prog 42 false := ⟨Try.isAgg42⟩
instance : Inf Try.prog 43 .nilFunc 1 8 := Inf.of (by kernel_rfl) rfl
instance : Ta Try.prog 43 false := ⟨Try.isAgg43⟩
instance : Inf Try.prog 44 .nilFunc 1 8 := Inf.of (by kernel_rfl) rfl
instance : Ta Try.prog 44 false := ⟨Try.isAgg44⟩
instance : Inf Try.prog 45 .nilFunc 1 8 := Inf.of (by kernel_rfl) rfl
instance : Ta Try.prog 45 false := ⟨Try.isAgg45⟩
instance : Inf Try.prog 46 (.map none) 1 8 := Inf.of (by kernel_rfl) rfl
instance : Ta Try.prog 46 false := ⟨Try.isAgg46⟩
instance : Mp Try.prog 46 30 51 := ⟨Try.underlying46⟩
instance : Inf Try.prog 47 (.agg #[(.int .u64 0), (.map none)]) 2 16 := Inf.of (by kernel_rfl) rfl
instance : Ta Try.prog 47 true := ⟨Try.isAgg47⟩
instance : Pl Try.prog 47 [(0, 1), (1, 1)] := ⟨_, Try.underlying47, fun w => by kernel_rfl⟩
instance : Fd Try.prog 47 0 0 22 := ⟨_, _, Try.underlying47, rfl, rfl, rfl⟩
instance : Fd Try.prog 47 1 1 46 := ⟨_, _, Try.underlying47, rfl, rfl, rfl⟩
instance : Inf Try.prog 48 (.agg #[(.int .u64 0), (.map none)]) 2 16 := Inf.of (by kernel_rfl) rfl
instance : Ta Try.prog 48 true := ⟨Try.isAgg48⟩
instance : Pl Try.prog 48 [(0, 1), (1, 1)] := ⟨_, Try.underlying48, fun w => by kernel_rfl⟩
instance : Fd Try.prog 48 0 0 22 := ⟨_, _, Try.underlying48, rfl, rfl, rfl⟩
instance : Fd Try.prog 48 1 1 46 := ⟨_, _, Try.underlying48, rfl, rfl, rfl⟩
instance : Inf Try.prog 49 .nilFunc 1 8 := Inf.of (by kernel_rfl) rfl
instance : Ta Try.prog 49 false := ⟨Try.isAgg49⟩
instance : Inf Try.prog 50 (.agg #[(.int .u64 0), (.int .u64 0), (.int .u64 0)]) 3 24 := Inf.of (by kernel_rfl) rfl
instance : Ta Try.prog 50 true := ⟨Try.isAgg50⟩
instance : Pl Try.prog 50 [(0, 1), (1, 1), (2, 1)] := ⟨_, Try.underlying50, fun w => by kernel_rfl⟩
instance : Fd Try.prog 50 0 0 22 := ⟨_, _, Try.underlying50, rfl, rfl, rfl⟩
instance : Fd Try.prog 50 1 1 22 := ⟨_, _, Try.underlying50, rfl, rfl, rfl⟩
instance : Fd Try.prog 50 2 2 22 := ⟨_, _, Try.underlying50, rfl, rfl, rfl⟩
instance : Inf Try.prog 51 (.agg #[(.int .u64 0), (.int .u64 0), (.int .u64 0)]) 3 24 := Inf.of (by kernel_rfl) rfl
instance : Ta Try.prog 51 true := ⟨Try.isAgg51⟩
instance : Pl Try.prog 51 [(0, 1), (1, 1), (2, 1)] := ⟨_, Try.underlying51, fun w => by kernel_rfl⟩
instance : Fd Try.prog 51 0 0 22 := ⟨_, _, Try.underlying51, rfl, rfl, rfl⟩
instance : Fd Try.prog 51 1 1 22 := ⟨_, _, Try.underlying51, rfl, rfl, rfl⟩
instance : Fd Try.prog 51 2 2 22 := ⟨_, _, Try.underlying51, rfl, rfl, rfl⟩
instance : Inf Try.prog 52 .nilFunc 1 8 := Inf.of (by kernel_rfl) rfl
instance : Ta Try.prog 52 false := ⟨Try.isAgg52⟩
instance : Inf Try.prog 53 .nilFunc 1 8 := Inf.of (by kernel_rfl) rfl
instance : Ta Try.prog 53 false := ⟨Try.isAgg53⟩
instance : Inf Try.prog 54 .nilFunc 1 8 := Inf.of (by kernel_rfl) rfl
instance : Ta Try.prog 54 false := ⟨Try.isAgg54⟩
instance : Inf Try.prog 55 (.slice none 0 0) 1 24 := Inf.of (by kernel_rfl) rfl
instance : Ta Try.prog 55 false := ⟨Try.isAgg55⟩
instance : Sl Try.prog 55 76 := ⟨Try.underlying55⟩
instance : Inf Try.prog 56 (.agg #[(.int .u64 0), (.slice none 0 0)]) 2 32 := Inf.of (by kernel_rfl) rfl
instance : Ta Try.prog 56 true := ⟨Try.isAgg56⟩
instance : Pl Try.prog 56 [(0, 1), (1, 1)] := ⟨_, Try.underlying56, fun w => by kernel_rfl⟩
instance : Fd Try.prog 56 0 0 22 := ⟨_, _, Try.underlying56, rfl, rfl, rfl⟩
instance : Fd Try.prog 56 1 1 55 := ⟨_, _, Try.underlying56, rfl, rfl, rfl⟩
instance : Inf Try.prog 57 (.agg #[(.int .u64 0), (.slice none 0 0)]) 2 32 := Inf.of (by kernel_rfl) rfl
instance : Ta Try.prog 57 true := ⟨Try.isAgg57⟩
instance : Pl Try.prog 57 [(0, 1), (1, 1)] := ⟨_, Try.underlying57, fun w => by kernel_rfl⟩
instance : Fd Try.prog 57 0 0 22 := ⟨_, _, Try.underlying57, rfl, rfl, rfl⟩
instance : Fd Try.prog 57 1 1 55 := ⟨_, _, Try.underlying57, rfl, rfl, rfl⟩
instance : Inf Try.prog 59 .nilFunc 1 8 := Inf.of (by kernel_rfl) rfl
instance : Ta Try.prog 59 false := ⟨Try.isAgg59⟩
instance : Inf Try.prog 61 .nilFunc 1 8 := Inf.of (by kernel_rfl) rfl
instance : Ta Try.prog 61 false := ⟨Try.isAgg61⟩
instance : Inf Try.prog 62 .nilFunc 1 8 := Inf.of (by kernel_rfl) rfl
instance : Ta Try.prog 62 false := ⟨Try.isAgg62⟩
instance : Inf Try.prog 63 .nilFunc 1 8 := Inf.of (by kernel_rfl) rfl
instance : Ta Try.prog 63 false := ⟨Try.isAgg63⟩
instance : Inf Try.prog 64 .nilFunc 1 8 := Inf.of (by kernel_rfl) rfl
instance : Ta Try.prog 64 false := ⟨Try.isAgg64⟩
instance : Inf Try.prog 65 .nilFunc 1 8 := Inf.of (by kernel_rfl) rfl
instance : Ta Try.prog 65 false := ⟨Try.isAgg65⟩
instance : Inf Try.prog 66 .nilFunc 1 8 := Inf.of (by kernel_rfl) rfl
instance : Ta Try.prog 66 false := ⟨Try.isAgg66⟩
instance : Inf Try.prog 67 .nilFunc 1 8 := Inf.of (by kernel_rfl) rfl
instance : Ta Try.prog 67 false := ⟨Try.isAgg67⟩
instance : Inf Try.prog 68 .nilFunc 1 8 := Inf.of (by kernel_rfl) rfl
instance : Ta Try.prog 68 false := ⟨Try.isAgg68⟩
instance : Inf Try.prog 69 .nilFunc 1 8 := Inf.of (by kernel_rfl) rfl
instance : Ta Try.prog 69 false := ⟨Try.isAgg69⟩
instance : Inf Try.prog 70 .nilFunc 1 8 := Inf.of (by kernel_rfl) rfl
instance : Ta Try.prog 70 false := ⟨Try.isAgg70⟩
instance : Inf Try.prog 72 .nilFunc 1 8 := Inf.of (by kernel_rfl) rfl
instance : Ta Try.prog 72 false := ⟨Try.isAgg72⟩
instance : Inf Try.prog 73 .nilFunc 1 8 := Inf.of (by kernel_rfl) rfl
instance : Ta Try.prog 73 false := ⟨Try.isAgg73⟩
instance : Inf Try.prog 74 .nilFunc 1 8 := Inf.of (by kernel_rfl) rfl
instance : Ta Try.prog 74 false := ⟨Try.isAgg74⟩
instance : Inf Try.prog 75 (.agg #[(.int .u32 0), (.slice none 0 0), (.bool false)]) 3 40 := Inf.of (by kernel_rfl) rfl
instance : Ta Try.prog 75 true := ⟨Try.isAgg75⟩
instance : Pl Try.prog 75 [(0, 1), (1, 1), (2, 1)] := ⟨_, Try.underlying75, fun w => by kernel_rfl⟩
instance : Fd Try.prog 75 0 0 30 := ⟨_, _, Try.underlying75, rfl, rfl, rfl⟩
instance : Fd Try.prog 75 1 1 29 := ⟨_, _, Try.underlying75, rfl, rfl, rfl⟩
instance : Fd Try.prog 75 2 2 4 := ⟨_, _, Try.underlying75, rfl, rfl, rfl⟩
instance : Inf Try.prog 76 (.agg #[(.int .u32 0), (.slice none 0 0), (.bool false)]) 3 40 := Inf.of (by kernel_rfl) rfl
instance : Ta Try.prog 76 true := ⟨Try.isAgg76⟩
instance : Pl Try.prog 76 [(0, 1), (1, 1), (2, 1)] := ⟨_, Try.underlying76, fun w => by kernel_rfl⟩
instance : Fd Try.prog 76 0 0 30 := ⟨_, _, Try.underlying76, rfl, rfl, rfl⟩
instance : Fd Try.prog 76 1 1 29 := ⟨_, _, Try.underlying76, rfl, rfl, rfl⟩
instance : Fd Try.prog 76 2 2 4 := ⟨_, _, Try.underlying76, rfl, rfl, rfl⟩
instance : Inf Try.prog 77 .nilFunc 1 8 := Inf.of (by kernel_rfl) rfl
instance : Ta Try.prog 77 false := ⟨Try.isAgg77⟩
instance : Inf Try.prog 78 .nilFunc 1 8 := Inf.of (by kernel_rfl) rfl
instance : Ta Try.prog 78 false := ⟨Try.isAgg78⟩
instance : Inf Try.prog 79 .nilFunc 1 8 := Inf.of (by kernel_rfl) rfl
instance : Ta Try.prog 79 false := ⟨Try.isAgg79⟩
instance : Inf Try.prog 80 .nilFunc 1 8 := Inf.of (by kernel_rfl) rfl
instance : Ta Try.prog 80 false := ⟨Try.isAgg80⟩
instance : Inf Try.prog 81 .nilFunc 1 8 := Inf.of (by kernel_rfl) rfl
instance : Ta Try.prog 81 false := ⟨Try.isAgg81⟩
instance : Inf Try.prog 82 .nilFunc 1 8 := Inf.of (by kernel_rfl) rfl
instance : Ta Try.prog 82 false := ⟨Try.isAgg82⟩
instance : Inf Try.prog 83 .nilFunc 1 8 := Inf.of (by kernel_rfl) rfl
instance : Ta Try.prog 83 false := ⟨Try.isAgg83⟩
instance : Inf Try.prog 84 .nilFunc 1 8 := Inf.of (by kernel_rfl) rfl
instance : Ta Try.prog 84 false := ⟨Try.isAgg84⟩
instance : Inf Try.prog 85 .nilFunc 1 8 := Inf.of (by kernel_rfl) rfl
instance : Ta Try.prog 85 false := ⟨Try.isAgg85⟩
instance : Inf Try.prog 86 .nilFunc 1 8 := Inf.of (by kernel_rfl) rfl
instance : Ta Try.prog 86 false := ⟨Try.isAgg86⟩
instance : Inf Try.prog 87 (.int .u64 0) 1 8 := Inf.of (by kernel_rfl) rfl
instance : Ta Try.prog 87 false := ⟨Try.isAgg87⟩
instance : Ik Try.prog 87 .u64 := ⟨Try.underlying87⟩
instance : Inf Try.prog 88 .nilFunc 1 8 := Inf.of (by kernel_rfl) rfl
instance : Ta Try.prog 88 false := ⟨Try.isAgg88⟩
instance : Inf Try.prog 89 (.int .i64 0) 1 8 := Inf.of (by kernel_rfl) rfl
instance : Ta Try.prog 89 false := ⟨Try.isAgg89⟩
instance : Ik Try.prog 89 .i64 := ⟨Try.underlying89⟩
instance : Inf Try.prog 91 .nilFunc 1 8 := Inf.of (by kernel_rfl) rfl
instance : Ta Try.prog 91 false := ⟨Try.isAgg91⟩
instance : Inf Try.prog 92 .nilFunc 1 8 := Inf.of (by kernel_rfl) rfl
instance : Ta Try.prog 92 false := ⟨Try.isAgg92⟩
instance : Inf Try.prog 93 .nilFunc 1 8 := Inf.of (by kernel_rfl) rfl
instance : Ta Try.prog 93 false := ⟨Try.isAgg93⟩
instance : Inf Try.prog 94 .nilFunc 1 8 := Inf.of (by kernel_rfl) rfl
instance : Ta Try.prog 94 false := ⟨Try.isAgg94⟩
instance : Inf Try.prog 96 .nilFunc 1 8 := Inf.of (by kernel_rfl) rfl
instance : Ta Try.prog 96 false := ⟨Try.isAgg96⟩
instance : Inf Try.prog 97 .nilFunc 1 8 := Inf.of (by kernel_rfl) rfl
instance : Ta Try.prog 97 false := ⟨Try.isAgg97⟩
instance : Inf Try.prog 98 .nilFunc 1 8 := Inf.of (by kernel_rfl) rfl
instance : Ta Try.prog 98 false := ⟨Try.isAgg98⟩
instance : Inf Try.prog 99 (.int .u64 0) 1 8 := Inf.of (by kernel_rfl) rfl
instance : Ta Try.prog 99 false := ⟨Try.isAgg99⟩
instance : Ik Try.prog 99 .u64 := ⟨Try.underlying99⟩
instance : Inf Try.prog 100 .nilFunc 1 8 := Inf.of (by kernel_rfl) rfl
instance : Ta Try.prog 100 false := ⟨Try.isAgg100⟩
instance : Inf Try.prog 101 .nilFunc 1 8 := Inf.of (by kernel_rfl) rfl
instance : Ta Try.prog 101 false := ⟨Try.isAgg101⟩
instance : Inf Try.prog 102 .nilFunc 1 8 := Inf.of (by kernel_rfl) rfl
instance : Ta Try.prog 102 false := ⟨Try.isAgg102⟩
instance : Inf Try.prog 103 (.pointer none) 1 8 := Inf.of (by kernel_rfl) rfl
instance : Ta Try.prog 103 false := ⟨Try.isAgg103⟩
instance : Pn Try.prog 103 3 := ⟨Try.underlying103⟩
instance : Inf Try.prog 104 .nilFunc 1 8 := Inf.of (by kernel_rfl) rfl
instance : Ta Try.prog 104 false := ⟨Try.isAgg104⟩
instance : Inf Try.prog 105 (.pointer none) 1 8 := Inf.of (by kernel_rfl) rfl
instance : Ta Try.prog 105 false := ⟨Try.isAgg105⟩
instance : Pn Try.prog 105 99 := ⟨Try.underlying105⟩
instance : Inf Try.prog 107 .nilFunc 1 8 := Inf.of (by kernel_rfl) rfl
instance : Ta Try.prog 107 false := ⟨Try.isAgg107⟩
instance : Inf Try.prog 108 .nilFunc 1 8 := Inf.of (by kernel_rfl) rfl
instance : Ta Try.prog 108 false := ⟨Try.isAgg108⟩
instance : Inf Try.prog 109 (.agg #[(.pointer none), (.pointer none), (.pointer none), (.string ⟨#[]⟩)]) 4 40 := Inf.of (by kernel_rfl) rfl
instance : Ta Try.prog 109 true := ⟨Try.isAgg109⟩
instance : Pl Try.prog 109 [(0, 1), (1, 1), (2, 1), (3, 1)] := ⟨_, Try.underlying109, fun w => by kernel_rfl⟩
instance : Fd Try.prog 109 0 0 17 := ⟨_, _, Try.underlying109, rfl, rfl, rfl⟩
instance : Fd Try.prog 109 1 1 17 := ⟨_, _, Try.underlying109, rfl, rfl, rfl⟩
instance : Fd Try.prog 109 2 2 17 := ⟨_, _, Try.underlying109, rfl, rfl, rfl⟩
instance : Fd Try.prog 109 3 3 9 := ⟨_, _, Try.underlying109, rfl, rfl, rfl⟩
instance : Inf Try.prog 110 (.agg #[(.pointer none), (.pointer none), (.pointer none), (.string ⟨#[]⟩)]) 4 40 := Inf.of (by kernel_rfl) rfl
instance : Ta Try.prog 110 true := ⟨Try.isAgg110⟩
instance : Pl Try.prog 110 [(0, 1), (1, 1), (2, 1), (3, 1)] := ⟨_, Try.underlying110, fun w => by kernel_rfl⟩
instance : Fd Try.prog 110 0 0 17 := ⟨_, _, Try.underlying110, rfl, rfl, rfl⟩
instance : Fd Try.prog 110 1 1 17 := ⟨_, _, Try.underlying110, rfl, rfl, rfl⟩
instance : Fd Try.prog 110 2 2 17 := ⟨_, _, Try.underlying110, rfl, rfl, rfl⟩
instance : Fd Try.prog 110 3 3 9 := ⟨_, _, Try.underlying110, rfl, rfl, rfl⟩
instance : Inf Try.prog 111 (.agg #[]) 0 0 := Inf.of (by kernel_rfl) rfl
instance : Ta Try.prog 111 true := ⟨Try.isAgg111⟩
instance : Ar Try.prog 111 0 16 := ⟨Try.underlying111⟩
instance : Inf Try.prog 112 (.agg #[]) 0 0 := Inf.of (by kernel_rfl) rfl
instance : Ta Try.prog 112 true := ⟨Try.isAgg112⟩
instance : Pl Try.prog 112 [(0, 0)] := ⟨_, Try.underlying112, fun w => by kernel_rfl⟩
instance : Fd Try.prog 112 0 0 111 := ⟨_, _, Try.underlying112, rfl, rfl, rfl⟩
instance : Inf Try.prog 113 (.agg #[]) 0 0 := Inf.of (by kernel_rfl) rfl
instance : Ta Try.prog 113 true := ⟨Try.isAgg113⟩
instance : Pl Try.prog 113 [(0, 0)] := ⟨_, Try.underlying113, fun w => by kernel_rfl⟩
instance : Fd Try.prog 113 0 0 111 := ⟨_, _, Try.underlying113, rfl, rfl, rfl⟩
instance : Inf Try.prog 114 .nilFunc 1 8 := Inf.of (by kernel_rfl) rfl
instance : Ta Try.prog 114 false := ⟨Try.isAgg114⟩
instance : Inf Try.prog 115 (.int .u8 0) 1 1 := Inf.of (by kernel_rfl) rfl
instance : Ta Try.prog 115 false := ⟨Try.isAgg115⟩
instance : Ik Try.prog 115 .u8 := ⟨Try.underlying115⟩
instance : Inf Try.prog 116 (.int .u8 0) 1 1 := Inf.of (by kernel_rfl) rfl
instance : Ta Try.prog 116 false := ⟨Try.isAgg116⟩
instance : Ik Try.prog 116 .u8 := ⟨Try.underlying116⟩
instance : Inf Try.prog 117 .nilFunc 1 8 := Inf.of (by kernel_rfl) rfl
instance : Ta Try.prog 117 false := ⟨Try.isAgg117⟩
instance : Inf Try.prog 118 (.pointer none) 1 8 := Inf.of (by kernel_rfl) rfl
instance : Ta Try.prog 118 false := ⟨Try.isAgg118⟩
instance : Pn Try.prog 118 5 := ⟨Try.underlying118⟩
instance : Inf Try.prog 119 (.int .i32 0) 1 4 := Inf.of (by kernel_rfl) rfl
instance : Ta Try.prog 119 false := ⟨Try.isAgg119⟩
instance : Ik Try.prog 119 .i32 := ⟨Try.underlying119⟩
instance : Inf Try.prog 120 (.int .i32 0) 1 4 := Inf.of (by kernel_rfl) rfl
instance : Ta Try.prog 120 false := ⟨Try.isAgg120⟩
instance : Ik Try.prog 120 .i32 := ⟨Try.underlying120⟩
instance : Inf Try.prog 121 (.agg #[(.int .u64 0), (.int .u64 0), (.int .u32 0), (.int .u8 0), (.int .u8 0), (.int .u8 0), (.int .u8 0), .nilFunc, (.pointer none), (.int .i32 0), (.int .i32 0)]) 11 48 := Inf.of (by kernel_rfl) rfl
instance : Ta Try.prog 121 true := ⟨Try.isAgg121⟩
instance : Pl Try.prog 121 [(0, 1), (1, 1), (2, 1), (3, 1), (4, 1), (5, 1), (6, 1), (7, 1), (8, 1), (9, 1), (10, 1)] := ⟨_, Try.underlying121, fun w => by kernel_rfl⟩
instance : Fd Try.prog 121 0 0 12 := ⟨_, _, Try.underlying121, rfl, rfl, rfl⟩
instance : Fd Try.prog 121 1 1 12 := ⟨_, _, Try.underlying121, rfl, rfl, rfl⟩
instance : Fd Try.prog 121 2 2 30 := ⟨_, _, Try.underlying121, rfl, rfl, rfl⟩
instance : Fd Try.prog 121 3 3 115 := ⟨_, _, Try.underlying121, rfl, rfl, rfl⟩
instance : Fd Try.prog 121 4 4 5 := ⟨_, _, Try.underlying121, rfl, rfl, rfl⟩
instance : Fd Try.prog 121 5 5 5 := ⟨_, _, Try.underlying121, rfl, rfl, rfl⟩
instance : Fd Try.prog 121 6 6 116 := ⟨_, _, Try.underlying121, rfl, rfl, rfl⟩
instance : Fd Try.prog 121 7 7 117 := ⟨_, _, Try.underlying121, rfl, rfl, rfl⟩
instance : Fd Try.prog 121 8 8 118 := ⟨_, _, Try.underlying121, rfl, rfl, rfl⟩
instance : Fd Try.prog 121 9 9 119 := ⟨_, _, Try.underlying121, rfl, rfl, rfl⟩
instance : Fd Try.prog 121 10 10 120 := ⟨_, _, Try.underlying121, rfl, rfl, rfl⟩
instance : Inf Try.prog 122 (.agg #[(.int .u64 0), (.int .u64 0), (.int .u32 0), (.int .u8 0), (.int .u8 0), (.int .u8 0), (.int .u8 0), .nilFunc, (.pointer none), (.int .i32 0), (.int .i32 0)]) 11 48 := Inf.of (by kernel_rfl) rfl
instance : Ta Try.prog 122 true := ⟨Try.isAgg122⟩
instance : Pl Try.prog 122 [(0, 1), (1, 1), (2, 1), (3, 1), (4, 1), (5, 1), (6, 1), (7, 1), (8, 1), (9, 1), (10, 1)] := ⟨_, Try.underlying122, fun w => by kernel_rfl⟩
instance : Fd Try.prog 122 0 0 12 := ⟨_, _, Try.underlying122, rfl, rfl, rfl⟩
instance : Fd Try.prog 122 1 1 12 := ⟨_, _, Try.underlying122, rfl, rfl, rfl⟩
instance : Fd Try.prog 122 2 2 30 := ⟨_, _, Try.underlying122, rfl, rfl, rfl⟩
instance : Fd Try.prog 122 3 3 115 := ⟨_, _, Try.underlying122, rfl, rfl, rfl⟩
instance : Fd Try.prog 122 4 4 5 := ⟨_, _, Try.underlying122, rfl, rfl, rfl⟩
instance : Fd Try.prog 122 5 5 5 := ⟨_, _, Try.underlying122, rfl, rfl, rfl⟩
instance : Fd Try.prog 122 6 6 116 := ⟨_, _, Try.underlying122, rfl, rfl, rfl⟩
instance : Fd Try.prog 122 7 7 117 := ⟨_, _, Try.underlying122, rfl, rfl, rfl⟩
instance : Fd Try.prog 122 8 8 118 := ⟨_, _, Try.underlying122, rfl, rfl, rfl⟩
instance : Fd Try.prog 122 9 9 119 := ⟨_, _, Try.underlying122, rfl, rfl, rfl⟩
instance : Fd Try.prog 122 10 10 120 := ⟨_, _, Try.underlying122, rfl, rfl, rfl⟩
instance : Inf Try.prog 123 (.pointer none) 1 8 := Inf.of (by kernel_rfl) rfl
instance : Ta Try.prog 123 false := ⟨Try.isAgg123⟩
instance : Cf Try.prog 2 := ⟨Try.call2⟩
instance : Cf Try.prog 3 := ⟨Try.call3⟩
instance : Cf Try.prog 4 := ⟨Try.call4⟩
instance : Cf Try.prog 5 := ⟨Try.call5⟩
instance : Cf Try.prog 6 := ⟨Try.call6⟩
instance : Cf Try.prog 7 := ⟨Try.call7⟩
instance : Cf Try.prog 8 := ⟨Try.call8⟩
instance : Cf Try.prog 9 := ⟨Try.call9⟩
instance : Cf Try.prog 10 := ⟨Try.call10⟩
instance : Cf Try.prog 11 := ⟨Try.call11⟩
instance : Cf Try.prog 12 := ⟨Try.call12⟩
instance : Cf Try.prog 13 := ⟨Try.call13⟩
instance : Cf Try.prog 14 := ⟨Try.call14⟩
instance : Cf Try.prog 15 := ⟨Try.call15⟩
instance : Cf Try.prog 16 := ⟨Try.call16⟩
instance : Cf Try.prog 17 := ⟨Try.call17⟩
instance : Cf Try.prog 18 := ⟨Try.call18⟩
instance : Cf Try.prog 19 := ⟨Try.call19⟩
instance : Cf Try.prog 20 := ⟨Try.call20⟩
instance : Cf Try.prog 21 := ⟨Try.call21⟩
instance : Cf Try.prog 22 := ⟨Try.call22⟩
instance : Cf Try.prog 23 := ⟨Try.call23⟩
instance : Cf Try.prog 24 := ⟨Try.call24⟩
instance : Cf Try.prog 25 := ⟨Try.call25⟩
instance : Cf Try.prog 26 := ⟨Try.call26⟩
instance : Cf Try.prog 27 := ⟨Try.call27⟩
instance : Cf Try.prog 28 := ⟨Try.call28⟩
instance : Cf Try.prog 29 := ⟨Try.call29⟩
instance : Cf Try.prog 30 := ⟨Try.call30⟩
instance : Cf Try.prog 31 := ⟨Try.call31⟩
instance : Cf Try.prog 32 := ⟨Try.call32⟩
instance : Cf Try.prog 33 := ⟨Try.call33⟩
instance : Cf Try.prog 34 := ⟨Try.call34⟩
instance : Cf Try.prog 35 := ⟨Try.call35⟩
instance : Cf Try.prog 36 := ⟨Try.call36⟩
instance : Cf Try.prog 37 := ⟨Try.call37⟩
instance : Cf Try.prog 38 := ⟨Try.call38⟩
instance : Cf Try.prog 39 := ⟨Try.call39⟩
instance : Cf Try.prog 40 := ⟨Try.call40⟩
instance : Cf Try.prog 41 := ⟨Try.call41⟩
instance : Cf Try.prog 42 := ⟨Try.call42⟩
instance : Cf Try.prog 43 := ⟨Try.call43⟩
instance : Cf Try.prog 44 := ⟨Try.call44⟩
instance : Cf Try.prog 45 := ⟨Try.call45⟩
instance : Cf Try.prog 46 := ⟨Try.call46⟩
instance : Cf Try.prog 47 := ⟨Try.call47⟩
instance : Cf Try.prog 48 := ⟨Try.call48⟩
instance : Cf Try.prog 49 := ⟨Try.call49⟩
instance : Cf Try.prog 50 := ⟨Try.call50⟩
instance : Cf Try.prog 51 := ⟨Try.call51⟩
instance : Cf Try.prog 52 := ⟨Try.call52⟩
instance : Cf Try.prog 53 := ⟨Try.call53⟩
instance : Cf Try.prog 54 := ⟨Try.call54⟩
instance : Cf Try.prog 55 := ⟨Try.call55⟩
instance : Cf Try.prog 56 := ⟨Try.call56⟩
instance : Cf Try.prog 57 := ⟨Try.call57⟩
instance : Cf Try.prog 58 := ⟨Try.call58⟩
instance : Cf Try.prog 59 := ⟨Try.call59⟩
instance : Cf Try.prog 60 := ⟨Try.call60⟩
instance : Cf Try.prog 61 := ⟨Try.call61⟩
instance : Cf Try.prog 62 := ⟨Try.call62⟩
instance : Cf Try.prog 63 := ⟨Try.call63⟩
instance : Cf Try.prog 64 := ⟨Try.call64⟩
instance : Cf Try.prog 65 := ⟨Try.call65⟩
instance : Mx Try.prog := ⟨by kernel_rfl⟩
end Go.Proofs.Ytoolgphkfnkajaa.X
/-
  Words of my own for walks, further operations: nil slices, slices of no element, slices with three bounds, clear, an append in place, maps whose keys are whole numbers, functions without a body. No condition; generic over the program.
-/
namespace Go.Proofs.Ytoolgphkfnkajaa.X
open Go Go.RowKit
set_option linter.unusedVariables false
set_option linter.unusedSimpArgs false
section
variable {P : Program} {W : World} {n : Nat} {L : List Blk} {E : List (Nat × Value)} {d : Option Nat} {t : TypeId} {pos : String} {after : Array Edge} {g : Option (Nat × Bool)} {K : Value → List Blk → Prop}

theorem rd_eqnilS {T T' e : Nat} {x : Operand} {p : Option Addr} {m c : Nat} [hT : Sl P T e] (hx : ev E x = some (.slice p m c)) :
    RD P W n L E ⟨d, .binOp .eql T x (.const (.slice none 0 0)) T', t, pos, after, g⟩ (.bool p.isNone) := .mk fun a w ha hw => by
  have hc : a.eval (.const (.slice none 0 0)) = .slice none 0 0 := rfl
  have h1 := run_equal_slice_nil (P := P) w T e p m c hT.h
  simp only [execOp, ha.eval hx, hc]
  simp [eqGuard, binOp, h1]
theorem rd_nenilS {T T' e : Nat} {x : Operand} {p : Option Addr} {m c : Nat} [hT : Sl P T e] (hx : ev E x = some (.slice p m c)) :
    RD P W n L E ⟨d, .binOp .neq T x (.const (.slice none 0 0)) T', t, pos, after, g⟩ (.bool p.isSome) := .mk fun a w ha hw => by
  have hc : a.eval (.const (.slice none 0 0)) = .slice none 0 0 := rfl
  have h1 := run_equal_slice_nil (P := P) w T e p m c hT.h
  simp only [execOp, ha.eval hx, hc]
  cases p <;> simp [eqGuard, binOp, h1]
theorem ef_slice0 {T : Nat} {e s : Nat} [hT : Sl P T e] [hS : Ts P e s] (hk : ∀ r, K (.slice (some ⟨r, 0, none⟩) 0 0) ((r, .cells #[] e (0, 0)) :: L)) : EF P W n L E ⟨d, .buildSlice T 0 #[], t, pos, after, g⟩ K :=
  ef_of_new (v := fun r => .slice (some ⟨r, 0, none⟩) 0 0) (fun a w ha hw => by
    have hB := hS.h w
    have h0 : Array.map (fun (_ : Nat) => (default : Value)) (Array.range 0) = #[] := by simp [Array.range]
    simp [execOp, Instr.buildSlice, run_underlying hT.h, hB, Instr.fill, newRow, h0]) hk
theorem SlO.zero {s : Nat} {e : TypeId} {r : Nat} : SlO s e (.slice (some ⟨r, 0, none⟩) 0 0) 0 [] [(r, .cells #[] e (0, 0))] := .inr ⟨r, #[], 0, rfl, rfl, Nat.le_refl _, by simp, by simp⟩
theorem rd_slice3 {T e m b o len cap : Nat} {x lo hi mx : Operand} {k k' k'' : IntKind} {i j q : Int} [hT : Sl P T e] [hS : Ts P e m] (hx : ev E x = some (.slice (some ⟨b, o, none⟩) len cap)) (hl : ev E lo = some (.int k i)) (hh : ev E hi = some (.int k' j)) (hm : ev E mx = some (.int k'' q))
    (h0 : 0 ≤ i) (h1 : i ≤ j) (h2 : j ≤ q) (h3 : q ≤ cap) :
    ∃ v, RD P W n L E ⟨d, .slice T x (some lo) (some hi) (some mx), t, pos, after, g⟩ v := by
  refine ⟨.slice (if q.toNat = i.toNat then some ⟨b, o, none⟩ else some ⟨b, o + i.toNat * m, none⟩) (j.toNat - i.toNat) (q.toNat - i.toNat), .mk fun a w ha hw => ?_⟩
  have hB := hS.h w
  have e1 : 0 ≤ j := by omega
  have e2 : 0 ≤ q := by omega
  have e3 : j ≤ (q.toNat : Int) := by omega
  have e4 : i ≤ (j.toNat : Int) := by omega
  have e5 : j ≤ max q 0 := by omega
  have e6 : i ≤ max j 0 := by omega
  simp [execOp, ha.eval hx, ha.eval hl, ha.eval hh, ha.eval hm, Instr.sliceAt, Instr.slice, Instr.sliceBounds, Instr.sliceBound, run_underlying hT.h, asIntOf, hB, h0, h1, h2, h3, e1, e2, e3, e4, e5, e6, add_zero']
theorem rd_sliceEnd {T e m b o len cap : Nat} {x lo : Operand} {k : IntKind} {i : Int} [hT : Sl P T e] [hS : Ts P e m] (hx : ev E x = some (.slice (some ⟨b, o, none⟩) len cap)) (hl : ev E lo = some (.int k i))
    (h0 : 0 ≤ i) (h1 : i ≤ len) :
    RD P W n L E ⟨d, .slice T x (some lo) none none, t, pos, after, g⟩ (.slice (if cap = i.toNat then some ⟨b, o, none⟩ else some ⟨b, o + i.toNat * m, none⟩) (len - i.toNat) (cap - i.toNat)) := .mk fun a w ha hw => by
  have hB := hS.h w
  simp [execOp, ha.eval hx, ha.eval hl, Instr.sliceAt, Instr.slice, Instr.sliceBounds, Instr.sliceBound, run_underlying hT.h, asIntOf, hB, h0, h1, add_zero']
theorem rd_sliceNil {T e m : Nat} {x lo hi : Operand} {k k' : IntKind} [hT : Sl P T e] [hS : Ts P e m] (hx : ev E x = some (.slice none 0 0)) (hl : ev E lo = some (.int k 0)) (hh : ev E hi = some (.int k' 0)) :
    RD P W n L E ⟨d, .slice T x (some lo) (some hi) none, t, pos, after, g⟩ (.slice none 0 0) := .mk fun a w ha hw => by
  have hB := hS.h w
  simp [execOp, ha.eval hx, ha.eval hl, ha.eval hh, Instr.sliceAt, Instr.slice, Instr.sliceBounds, Instr.sliceBound, run_underlying hT.h, asIntOf, hB]
/-- The room is there: the source's cells are read, then written behind the first ones. -/
theorem ef_appendRoom (A R : List Blk) {T e s bt : Nat} {z : Value} {x y : Operand} {b m k c cap : Nat} {p : Option Addr} {cs : Array Value} {news : List Value} [hT : Sl P T e] [hI : Inf P e z s bt]
    (hx : ev E x = some (.slice (some ⟨b, 0, none⟩) m cap)) (hy : ev E y = some (.slice p k c)) (hL : L = A ++ (b, .cells cs e (0, 0)) :: R) (hsrc : Rs W L p news) (hk : news.length = k * s) (h1a : news.all (·.oneCell') = true)
    (hroom : m + k ≤ cap) (hcs : cs.size = cap * s) (hs : 0 < s) (hK : K (.slice (some ⟨b, 0, none⟩) (m + k) cap) (A ++ (b, .cells (cs.toList.take (m * s) ++ news ++ cs.toList.drop (m * s + news.length)).toArray e (0, 0)) :: R)) :
    EF P W n L E ⟨d, .call ⟨.builtin .append, #[x, y], #[T, T]⟩, t, pos, after, g⟩ K := by
  have h1 : ∀ u ∈ news, u.oneCell' = true := List.all_eq_true.1 h1a
  refine ⟨fun a w ha hw => ?_⟩
  have hrun : (execOp a.eval ⟨d, .call ⟨.builtin .append, #[x, y], #[T, T]⟩, t, pos, after, g⟩).run P w = ((Builtin.append_ #[T, T] t #[.slice (some ⟨b, 0, none⟩) m cap, .slice p k c]).run P w).andThen fun v w => .ok (.value v) w := by
    simp [execOp, resolve, invoke, builtin, ha.eval hx, ha.eval hy]
  rw [hrun]
  obtain ⟨i, hi1, hi2, hi3, hi4, hzz⟩ := hI.h
  subst hi3; subst hi4
  subst hL
  by_cases hk0 : k = 0
  · subst hk0
    have hn : news = [] := List.eq_nil_of_length_eq_zero (by simpa using hk)
    subst hn
    rw [run_append_zero (some ⟨b, 0, none⟩) p m cap c w (by omega)]
    refine ⟨_, hw, ?_⟩
    simpa using hK
  · have hpos : 0 < news.length := by rw [hk]; exact Nat.mul_pos (by omega) hs
    obtain ⟨b0, o0, hp, _⟩ := hsrc 0 _ (List.getElem?_eq_getElem hpos)
    subst hp
    have hnews : ∀ j u, news[j]? = some u → w.cell? ((⟨b0, o0, none⟩ : Addr).add j) = some u := fun j u hj => by
      obtain ⟨b', o', hbo, hc⟩ := hsrc j u hj
      simp only [Option.some.injEq, Addr.mk.injEq] at hbo
      obtain ⟨rfl, rfl, _⟩ := hbo
      rw [add_zero']; exact hc.get hw
    have hfit' : m * i.size + news.length ≤ cs.size := by rw [hk, hcs, ← Nat.add_mul]; exact Nat.mul_le_mul_right _ hroom
    have hr := run_append_room (P := P) w T t e i hT.h hi1 b m cap cs hw.mid ⟨b0, o0, none⟩ k c news hk hnews h1 hroom hfit'
    rw [hr]
    exact ⟨_, hw.turnAt rfl rfl rfl (setRow_heap w b cs _ e (0, 0) hw.mid) (fun q hq => setRow_other w b q _ hq), hK⟩
theorem ef_clear0 {T e : Nat} {x : Operand} {p : Option Addr} {c : Nat} [hT : Sl P T e] (hx : ev E x = some (.slice p 0 c)) (hK : K (.tuple #[]) L) : EF P W n L E ⟨d, .call ⟨.builtin .clear, #[x], #[T]⟩, t, pos, after, g⟩ K := by
  refine ⟨fun a w ha hw => ?_⟩
  have hrun : (execOp a.eval ⟨d, .call ⟨.builtin .clear, #[x], #[T]⟩, t, pos, after, g⟩).run P w = .ok (.value (.tuple #[])) w := by
    cases p <;> simp [execOp, resolve, invoke, builtin, ha.eval hx, Builtin.clear_, run_underlying hT.h]
  rw [hrun]
  exact ⟨_, hw, hK⟩
theorem ef_clear (A R : List Blk) {T e s bt : Nat} {z : Value} {x : Operand} {b o m c : Nat} {cs : Array Value} {T' : TypeId} [hT : Sl P T e] [hI : Inf P e z s bt]
    (hx : ev E x = some (.slice (some ⟨b, o, none⟩) m c)) (hL : L = A ++ (b, .cells cs T' (0, 0)) :: R) (hm : 0 < m) (hfit : o + m * s ≤ cs.size) (hz1 : z.cells.all (·.oneCell') = true)
    (hK : ∀ cs' : Array Value, cs'.size = cs.size → cs'.toList.take o = cs.toList.take o → K (.tuple #[]) (A ++ (b, .cells cs' T' (0, 0)) :: R)) : EF P W n L E ⟨d, .call ⟨.builtin .clear, #[x], #[T]⟩, t, pos, after, g⟩ K := by
  refine ⟨fun a w ha hw => ?_⟩
  obtain ⟨i, hi1, hi2, hi3, hi4, hzz⟩ := hI.h
  subst hL
  have h0 : (zeroValue e).run P w = .ok z w := by simp [zeroValue, typeInfo, hi1, hi2]
  have hzl : (Builtin.zeroCells z.cells m).toList.length = m * s := by rw [Array.length_toList, size_zeroCells, hzz]
  have hz1' : ∀ v ∈ (Builtin.zeroCells z.cells m).toList, v.oneCell' = true := fun v hv => by
    unfold Builtin.zeroCells at hv
    simp only [Array.toList_map, List.mem_map] at hv
    obtain ⟨j, hj, rfl⟩ := hv
    by_cases hs0 : z.cells.size = 0
    · exfalso
      rw [hs0] at hj; simp at hj
    · have : j % z.cells.size < z.cells.size := Nat.mod_lt _ (by omega)
      rw [getElem!_pos z.cells _ this]
      exact (Array.all_eq_true.1 hz1) _ this
  have hst := run_storeCells_at P b o T' (Builtin.zeroCells z.cells m).toList 0 cs w hw.mid (by rw [hzl]; omega) hz1'
  simp only [Nat.add_zero] at hst
  have hrun : (execOp a.eval ⟨d, .call ⟨.builtin .clear, #[x], #[T]⟩, t, pos, after, g⟩).run P w = .ok (.value (.tuple #[])) (w.setRow b (cs.toList.take o ++ (Builtin.zeroCells z.cells m).toList ++ cs.toList.drop (o + (Builtin.zeroCells z.cells m).toList.length)).toArray) := by
    obtain ⟨m', rfl⟩ : ∃ m', m = m' + 1 := ⟨m - 1, by omega⟩
    simp only [execOp, resolve, invoke, builtin, Builtin.clear_]
    simp [ha.eval hx, run_underlying hT.h, h0]
    rw [hst]
    simp
  rw [hrun]
  refine ⟨_, hw.turnAt rfl rfl rfl (setRow_heap w b cs _ T' (0, 0) hw.mid) (fun q hq => setRow_other w b q _ hq), hK _ ?_ ?_⟩
  · simp only [List.size_toArray, List.length_append, List.length_take, List.length_drop, Array.length_toList]
    rw [Array.length_toList] at hzl
    omega
  · rw [List.append_assoc, List.take_append_of_le_length (by rw [List.length_take, Array.length_toList]; omega), List.take_take, Nat.min_self]
/-- A function without a body, of which it is known what it gives. -/
theorem rd_callx {f : Nat} {args : List Operand} {ts : Array TypeId} {vs : List Value} {v : Value} (hf : ∀ w, (callFunc f vs.toArray).run P w = .ok (.value v) w) (h : evs E args = some vs) :
    RD P W n L E ⟨d, .call ⟨.value (.func f), args.toArray, ts⟩, t, pos, after, g⟩ v := .mk fun a w ha hw => by
  have he := ha.evals h
  have hv : a.eval (.func f) = .func (.func f) #[] #[] := rfl
  have hc := hf w
  simp only [execOp, resolve, hv]
  simp [Deferred.ofValue, invoke, he]
  simpa using hc

/-! ### maps whose keys are whole numbers -/
theorem er_map {α β : Type} (f : α → β) : ∀ (l : List α) (j : Nat), (l.map f).eraseIdx j = (l.eraseIdx j).map f
  | [], j => rfl
  | _ :: _, 0 => rfl
  | x :: r, j + 1 => congrArg (f x :: ·) (er_map f r j)
def mfind (l : List (Int × Value × Nat)) (n : Int) : Option Value := (l.find? (fun e => e.1 == n)).map (fun e => e.2.1)
def ments (k : IntKind) (l : List (Int × Value × Nat)) : Array MapEntry := (l.map fun e => (⟨.int k e.1, e.2.1, e.2.2⟩ : MapEntry)).toArray
/-- The block's content is a map; what it holds at a number, f tells. -/
def MpIs (k : IntKind) (o : Obj) (f : Int → Option Value) (sz : Nat) : Prop := ∃ l c, o = .map (ments k l) c ∧ (l.map (·.1)).Nodup ∧ l.length = sz ∧ (∀ n, mfind l n = f n) ∧ (l.map (·.2.2)).Nodup ∧ ∀ e, e ∈ l → e.2.2 < c
theorem MpIs.empty {k : IntKind} : MpIs k (.map #[] 0) (fun _ => none) 0 := ⟨[], 0, rfl, List.nodup_nil, rfl, fun n => rfl, List.nodup_nil, fun e h => by cases h⟩
def midx (l : List (Int × Value × Nat)) (n : Int) : Option (Nat × Value) := match l with
  | [] => none
  | e :: r => if e.1 = n then some (0, e.2.1) else (midx r n).map (fun x => (x.1 + 1, x.2))
theorem midx_find : ∀ (l : List (Int × Value × Nat)) (n : Int), (midx l n).map (·.2) = mfind l n
  | [], n => rfl
  | e :: r, n => by
    unfold midx mfind
    by_cases h : e.1 = n
    · simp [h]
    · have hb : (e.1 == n) = false := by simp [h]
      rw [if_neg h, List.find?_cons, hb]
      simp only [Option.map_map]
      have := midx_find r n
      unfold mfind at this
      rw [← this]; rfl
theorem findNow_midx (k : IntKind) (n : Int) : ∀ (l : List (Int × Value × Nat)) (i : Nat), Instr.findNow (.int k) (.int k n) (ments k l).toList i = some ((midx l n).map fun x => (i + x.1, x.2))
  | [], i => rfl
  | e :: r, i => by
    have ih := findNow_midx k n r (i + 1)
    simp only [ments] at ih ⊢
    simp only [List.map_cons, Instr.findNow, Instr.sameNow, if_true]
    by_cases h : e.1 = n
    · have : (n == e.1) = true := by simp [h]
      simp [this, midx, h]
    · have : (n == e.1) = false := by simp; exact fun e' => h e'.symm
      rw [this]
      simp only [midx, if_neg h]
      rw [ih]
      cases midx r n <;> simp [Nat.add_comm, Nat.add_left_comm]
theorem run_findKey {kt : Nat} {k : IntKind} [h : Ik P kt k] (n : Int) (l : List (Int × Value × Nat)) (w : World) : (Instr.findKey kt (.int k n) (ments k l).toList).run P w = .ok (midx l n) w := by
  simp only [Instr.findKey, Sem.run_bind, run_underlying h.h, Result.andThen_ok, findNow_midx]
  cases midx l n <;> simp
theorem run_checkKey {kt : Nat} {k : IntKind} [h : Ik P kt k] (b : Bool) (n : Int) (w : World) : (Instr.checkKey b 10000 kt (.int k n)).run P w = .ok () w := by
  show (Instr.checkKey b (9999 + 1) kt (.int k n)).run P w = _
  unfold Instr.checkKey
  simp only [Sem.run_bind, run_underlying h.h, Result.andThen_ok]
  rfl
theorem rd_lookup {T kt et r : Nat} {x y : Operand} {k : IntKind} {i : Int} {o : Obj} {f : Int → Option Value} {sz : Nat} {z : Value} [hT : Mp P T kt et] [hk : Ik P kt k] [h0 : T0 P et z] (hm : MpIs k o f sz) (hx : ev E x = some (.map (some r))) (hy : ev E y = some (.int k i)) (hKn : Kn W L r o) :
    RD P W n L E ⟨d, .lookup T x y false, t, pos, after, g⟩ ((f i).getD z) := .mk fun a w ha hw => by
  obtain ⟨l, c, rfl, hnd, hsz, hf, hbn, hbc⟩ := hm
  have h1 := hKn.get hw
  have h2 := run_checkKey (P := P) (kt := kt) (k := k) (ments k l).isEmpty i w
  have h3 := run_findKey (P := P) (kt := kt) (k := k) i l w
  have h4 := h0.h w
  have h5 : (getObj r).run P w = .ok (.map (ments k l) c) w := by simp [getObj, Sem.run, h1]
  rw [← hf i, ← midx_find]
  simp only [execOp, ha.eval hx, ha.eval hy, Instr.lookup, Sem.run_bind, run_underlying hT.h, Result.andThen_ok, h5, h2, h3]
  simp only [Sem.run_pure, Result.andThen_ok, Sem.run_bind, h2, h3]
  cases midx l i <;> simp [h4]
theorem rd_lookupOk {T kt et r : Nat} {x y : Operand} {k : IntKind} {i : Int} {o : Obj} {f : Int → Option Value} {sz : Nat} {z : Value} [hT : Mp P T kt et] [hk : Ik P kt k] [h0 : T0 P et z] (hm : MpIs k o f sz) (hx : ev E x = some (.map (some r))) (hy : ev E y = some (.int k i)) (hKn : Kn W L r o) :
    RD P W n L E ⟨d, .lookup T x y true, t, pos, after, g⟩ (.tuple #[(f i).getD z, .bool (f i).isSome]) := .mk fun a w ha hw => by
  obtain ⟨l, c, rfl, hnd, hsz, hf, hbn, hbc⟩ := hm
  have h1 := hKn.get hw
  have h2 := run_checkKey (P := P) (kt := kt) (k := k) (ments k l).isEmpty i w
  have h3 := run_findKey (P := P) (kt := kt) (k := k) i l w
  have h4 := h0.h w
  have h5 : (getObj r).run P w = .ok (.map (ments k l) c) w := by simp [getObj, Sem.run, h1]
  rw [← hf i, ← midx_find]
  simp only [execOp, ha.eval hx, ha.eval hy, Instr.lookup, Sem.run_bind, run_underlying hT.h, Result.andThen_ok, h5, h2, h3]
  simp only [Sem.run_pure, Result.andThen_ok, Sem.run_bind, h2, h3]
  cases midx l i <;> simp [h4]
theorem rd_lenMap {T kt et r : Nat} {x : Operand} {k : IntKind} {o : Obj} {f : Int → Option Value} {sz : Nat} [hT : Mp P T kt et] (hm : MpIs k o f sz) (hx : ev E x = some (.map (some r))) (hKn : Kn W L r o) :
    RD P W n L E ⟨d, .call ⟨.builtin .len, #[x], #[T]⟩, t, pos, after, g⟩ (.int .i64 sz) := .mk fun a w ha hw => by
  obtain ⟨l, c, rfl, hnd, hsz, hf, hbn, hbc⟩ := hm
  have h5 : (getObj r).run P w = .ok (.map (ments k l) c) w := by simp [getObj, Sem.run, hKn.get hw]
  simp [execOp, resolve, invoke, builtin, ha.eval hx, Builtin.len_, run_underlying hT.h, h5, goInt, ments, hsz]
def mupd (f : Int → Option Value) (n : Int) (v : Option Value) : Int → Option Value := fun m => if m = n then v else f m
theorem midx_some : ∀ (l : List (Int × Value × Nat)) (n : Int) (i : Nat) (v : Value), midx l n = some (i, v) → ∃ b, l[i]? = some (n, v, b)
  | e :: r, n, i, v, h => by
    unfold midx at h
    split at h
    · rename_i he
      simp only [Option.some.injEq, Prod.mk.injEq] at h
      obtain ⟨rfl, rfl⟩ := h
      exact ⟨e.2.2, by subst he; rfl⟩
    · cases hm : midx r n with
      | none => rw [hm] at h; cases h
      | some x =>
        rw [hm] at h
        simp only [Option.map_some, Option.some.injEq, Prod.mk.injEq] at h
        obtain ⟨rfl, rfl⟩ := h
        obtain ⟨b, hb⟩ := midx_some r n x.1 x.2 hm
        exact ⟨b, by simpa using hb⟩
theorem midx_none : ∀ (l : List (Int × Value × Nat)) (n : Int), midx l n = none → n ∉ l.map (·.1)
  | [], n, _ => by simp
  | e :: r, n, h => by
    unfold midx at h
    split at h
    · cases h
    · rename_i he
      simp only [Option.map_eq_none_iff] at h
      simp only [List.map_cons, List.mem_cons, not_or]
      exact ⟨fun e' => he e'.symm, midx_none r n h⟩
theorem mfind_cons (e : Int × Value × Nat) (r : List (Int × Value × Nat)) (m : Int) : mfind (e :: r) m = if m = e.1 then some e.2.1 else mfind r m := by
  unfold mfind
  by_cases h : m = e.1
  · subst h; simp
  · have : (e.1 == m) = false := by simp; exact fun e' => h e'.symm
    rw [List.find?_cons, this, if_neg h]
theorem mfind_set : ∀ (l : List (Int × Value × Nat)) (n : Int) (i : Nat) (v u : Value) (b b' : Nat), (l.map (·.1)).Nodup → l[i]? = some (n, v, b) → ∀ m, mfind (l.set i (n, u, b')) m = if m = n then some u else mfind l m
  | e :: r, n, 0, v, u, b, b', hn, h, m => by
    simp only [List.getElem?_cons_zero, Option.some.injEq] at h
    subst h
    rw [List.set_cons_zero, mfind_cons, mfind_cons]
    by_cases hm : m = n <;> simp [hm]
  | e :: r, n, i + 1, v, u, b, b', hn, h, m => by
    rw [List.map_cons, List.nodup_cons] at hn
    rw [List.set_cons_succ, mfind_cons, mfind_cons, mfind_set r n i v u b b' hn.2 (by simpa using h) m]
    have : n ∈ r.map (·.1) := List.mem_map.2 ⟨_, List.mem_of_getElem? (by simpa using h), rfl⟩
    by_cases h1 : m = e.1
    · subst h1
      have : ¬ e.1 = n := fun e' => hn.1 (e' ▸ this)
      simp [this]
    · simp [h1]
theorem mfind_push : ∀ (l : List (Int × Value × Nat)) (n : Int) (u : Value) (b : Nat), n ∉ l.map (·.1) → ∀ m, mfind (l ++ [(n, u, b)]) m = if m = n then some u else mfind l m
  | [], n, u, b, h, m => by rw [List.nil_append, mfind_cons]
  | e :: r, n, u, b, h, m => by
    simp only [List.map_cons, List.mem_cons, not_or] at h
    rw [List.cons_append, mfind_cons, mfind_cons, mfind_push r n u b h.2 m]
    by_cases h1 : m = e.1
    · subst h1
      have : ¬ e.1 = n := fun e' => h.1 e'.symm
      simp [this]
    · simp [h1]
theorem mfind_erase : ∀ (l : List (Int × Value × Nat)) (n : Int) (i : Nat) (v : Value) (b : Nat), (l.map (·.1)).Nodup → l[i]? = some (n, v, b) → ∀ m, mfind (l.eraseIdx i) m = if m = n then none else mfind l m
  | e :: r, n, 0, v, b, hn, h, m => by
    simp only [List.getElem?_cons_zero, Option.some.injEq] at h
    subst h
    rw [List.map_cons, List.nodup_cons] at hn
    rw [List.eraseIdx_cons_zero, mfind_cons]
    by_cases hm : m = n
    · subst hm
      simp only [if_true]
      unfold mfind
      rw [Option.map_eq_none_iff, List.find?_eq_none]
      intro x hx hxm
      exact hn.1 (List.mem_map.2 ⟨x, hx, by simpa using hxm⟩)
    · simp [hm]
  | e :: r, n, i + 1, v, b, hn, h, m => by
    rw [List.map_cons, List.nodup_cons] at hn
    rw [List.eraseIdx_cons_succ, mfind_cons, mfind_cons, mfind_erase r n i v b hn.2 (by simpa using h) m]
    have : n ∈ r.map (·.1) := List.mem_map.2 ⟨_, List.mem_of_getElem? (by simpa using h), rfl⟩
    by_cases h1 : m = e.1
    · subst h1
      have : ¬ e.1 = n := fun e' => hn.1 (e' ▸ this)
      simp [this]
    · simp [h1]
theorem born_push {l : List (Int × Value × Nat)} {c : Nat} {i : Int} {v : Value} (h : (l.map (·.2.2)).Nodup) (hc : ∀ e, e ∈ l → e.2.2 < c) : ((l ++ [(i, v, c)]).map (·.2.2)).Nodup := by
  rw [List.map_append]
  refine List.nodup_append.2 ⟨h, by simp, ?_⟩
  intro a ha b hb e
  simp only [List.map_cons, List.map_nil, List.mem_singleton] at hb
  subst hb; subst e
  obtain ⟨x, hx, hxe⟩ := List.mem_map.1 ha
  have := hc x hx
  omega
theorem born_lt {l : List (Int × Value × Nat)} {c : Nat} {i : Int} {v : Value} (hc : ∀ e, e ∈ l → e.2.2 < c) : ∀ e, e ∈ l ++ [(i, v, c)] → e.2.2 < c + 1 := fun e he => by
  rcases List.mem_append.1 he with he | he
  · have := hc e he; omega
  · rw [List.mem_singleton] at he; subst he; exact Nat.lt_succ_self _
theorem born_set {l : List (Int × Value × Nat)} {i : Int} {v u : Value} {b j : Nat} (hb : l[j]? = some (i, v, b)) (h : (l.map (·.2.2)).Nodup) : ((l.set j (i, u, b)).map (·.2.2)).Nodup := by
  have : (l.set j (i, u, b)).map (·.2.2) = l.map (·.2.2) := by
    apply List.ext_getElem?
    intro q
    simp only [List.getElem?_map, List.getElem?_set]
    by_cases hq : j = q
    · subst hq
      obtain ⟨hj, hv⟩ := List.getElem?_eq_some_iff.1 hb
      simp [hv, hj]
    · simp [hq]
  rw [this]; exact h
theorem sameBits_int (f : Nat) (k : IntKind) (a : Int) : Instr.sameBits f (.int k a) (.int k a) = true := by
  cases f <;> simp [Instr.sameBits]
theorem ef_mapUpdate (A R : List Blk) {T kt et r : Nat} {x y u : Operand} {k : IntKind} {i : Int} {v : Value} {o : Obj} {f : Int → Option Value} {sz : Nat} [hT : Mp P T kt et] [hk : Ik P kt k] (hm : MpIs k o f sz) (hx : ev E x = some (.map (some r))) (hy : ev E y = some (.int k i)) (hu : ev E u = some v)
    (hL : L = A ++ (r, o) :: R) (hK : ∀ o', MpIs k o' (mupd f i (some v)) (if (f i).isSome then sz else sz + 1) → K undef (A ++ (r, o') :: R)) : EF P W n L E ⟨d, .mapUpdate T x y u, t, pos, after, g⟩ K := by
  refine ⟨fun a w ha hw => ?_⟩
  obtain ⟨l, c, rfl, hnd, hsz, hf, hbn, hbc⟩ := hm
  subst hL
  have h1 := hw.mid
  have h2 := run_checkKey (P := P) (kt := kt) (k := k) false i w
  have h3 := run_findKey (P := P) (kt := kt) (k := k) i l w
  have h5 : (getObj r).run P w = .ok (.map (ments k l) c) w := by simp [getObj, Sem.run, h1]
  have hset : ∀ o', (setObj r o').run P w = .ok () { w with heap := w.heap.setIfInBounds r o' } := fun o' => by simp [setObj, Sem.run, h1]
  have hlt : r < w.heap.size := (Array.getElem?_eq_some_iff.1 h1).1
  have hturn : ∀ o', Hp W { w with heap := w.heap.setIfInBounds r o' } (A ++ (r, o') :: R) := fun o' =>
    hw.turnAt rfl rfl rfl (Array.getElem?_setIfInBounds_self_of_lt hlt) (fun q hq => Array.getElem?_setIfInBounds_ne (Ne.symm hq))
  have hrun : (execOp a.eval ⟨d, .mapUpdate T x y u, t, pos, after, g⟩).run P w = ((Instr.mapUpdate T (.map (some r)) (.int k i) v).run P w).andThen fun _ w' => .ok .skip w' := by
    simp [execOp, ha.eval hx, ha.eval hy, ha.eval hu]
  rw [hrun]
  simp only [Instr.mapUpdate, Sem.run_bind, run_underlying hT.h, Result.andThen_ok, h5, h2, h3]
  have hfi := hf i
  rw [← midx_find] at hfi
  cases hmi : midx l i with
  | none =>
    rw [hmi] at hfi
    simp only [hset, Result.andThen_ok]
    refine ⟨_, hturn _, hK _ ⟨l ++ [(i, v, c)], c + 1, ?_, ?_, ?_, fun m => ?_, born_push hbn hbc, born_lt hbc⟩⟩
    · simp [ments]
    · rw [List.map_append, List.map_cons, List.map_nil]
      exact List.nodup_append.2 ⟨hnd, by simp, by
        intro a ha b hb e
        simp only [List.mem_singleton] at hb
        subst hb; subst e
        exact midx_none l _ hmi ha⟩
    · simp only [Option.map_none] at hfi
      rw [← hfi]; simp [hsz]
    · rw [mfind_push l i v c (midx_none l i hmi) m, hf m]; rfl
  | some q =>
    obtain ⟨j, v0⟩ := q
    rw [hmi] at hfi
    obtain ⟨b, hb⟩ := midx_some l i j v0 hmi
    have hes : (ments k l)[j]? = some ⟨.int k i, v0, b⟩ := by simp [ments, hb]
    have hkt : (Instr.keyThatStays (((ments k l)[j]?.map (·.key)).getD (.int k i)) (.int k i)).run P w = .ok (.int k i) w := by
      rw [hes]
      simp [Instr.keyThatStays, sameBits_int]
    simp only [Sem.run_bind, hkt, Result.andThen_ok, hset]
    refine ⟨_, hturn _, hK _ ⟨l.set j (i, v, b), c, ?_, ?_, ?_, fun m => ?_, born_set hb hbn, fun e he => ?_⟩⟩
    · congr 1
      apply Array.ext'
      simp only [ments, Array.toList_modify]
      apply List.ext_getElem?
      intro q
      simp only [List.getElem?_modify, List.getElem?_map, List.getElem?_set]
      by_cases hq : j = q
      · subst hq
        obtain ⟨hj, hv⟩ := List.getElem?_eq_some_iff.1 hb
        simp [hv, hj]
      · simp [hq]
    · have : (l.set j (i, v, b)).map (·.1) = l.map (·.1) := by
        apply List.ext_getElem?
        intro q
        simp only [List.getElem?_map, List.getElem?_set]
        by_cases hq : j = q
        · subst hq
          obtain ⟨hj, hv⟩ := List.getElem?_eq_some_iff.1 hb
          simp [hv, hj]
        · simp [hq]
      rw [this]; exact hnd
    · simp only [Option.map_some] at hfi
      rw [← hfi]; simp [hsz]
    · rw [mfind_set l i j v0 v b b hnd hb m, hf m]; rfl
    · rcases List.mem_or_eq_of_mem_set he with he | rfl
      · exact hbc e he
      · exact (show b < c from hbc (i, v0, b) (List.mem_of_getElem? hb))
theorem ef_delete (A R : List Blk) {T T' kt et r : Nat} {x y : Operand} {k : IntKind} {i : Int} {o : Obj} {f : Int → Option Value} {sz : Nat} [hT : Mp P T kt et] [hk : Ik P kt k] (hm : MpIs k o f sz) (hx : ev E x = some (.map (some r))) (hy : ev E y = some (.int k i))
    (hL : L = A ++ (r, o) :: R) (hK : ∀ o', MpIs k o' (mupd f i none) (if (f i).isSome then sz - 1 else sz) → K (.tuple #[]) (A ++ (r, o') :: R)) : EF P W n L E ⟨d, .call ⟨.builtin .delete, #[x, y], #[T, T']⟩, t, pos, after, g⟩ K := by
  refine ⟨fun a w ha hw => ?_⟩
  obtain ⟨l, c, rfl, hnd, hsz, hf, hbn, hbc⟩ := hm
  subst hL
  have h1 := hw.mid
  have h2 := run_checkKey (P := P) (kt := kt) (k := k) (ments k l).isEmpty i w
  have h3 := run_findKey (P := P) (kt := kt) (k := k) i l w
  have h5 : (getObj r).run P w = .ok (.map (ments k l) c) w := by simp [getObj, Sem.run, h1]
  have hset : ∀ o', (setObj r o').run P w = .ok () { w with heap := w.heap.setIfInBounds r o' } := fun o' => by simp [setObj, Sem.run, h1]
  have hlt : r < w.heap.size := (Array.getElem?_eq_some_iff.1 h1).1
  have hturn : ∀ o', Hp W { w with heap := w.heap.setIfInBounds r o' } (A ++ (r, o') :: R) := fun o' =>
    hw.turnAt rfl rfl rfl (Array.getElem?_setIfInBounds_self_of_lt hlt) (fun q hq => Array.getElem?_setIfInBounds_ne (Ne.symm hq))
  have hrun : (execOp a.eval ⟨d, .call ⟨.builtin .delete, #[x, y], #[T, T']⟩, t, pos, after, g⟩).run P w = ((Builtin.delete_ #[T, T'] t #[.map (some r), .int k i]).run P w).andThen fun v w' => .ok (.value v) w' := by
    simp [execOp, resolve, invoke, builtin, ha.eval hx, ha.eval hy]
  rw [hrun]
  have hfi := hf i
  rw [← midx_find] at hfi
  simp only [Builtin.delete_]
  simp only [List.getElem?_toArray, List.getElem?_cons_zero, List.getElem?_cons_succ, Sem.run_bind, run_underlying hT.h, Result.andThen_ok, h5, h2, h3]
  cases hmi : midx l i with
  | none =>
    rw [hmi] at hfi
    simp only [Sem.run_bind, hset, Result.andThen_ok, Sem.run_pure]
    refine ⟨_, hturn _, hK _ ⟨l, c, rfl, hnd, ?_, fun m => ?_, hbn, hbc⟩⟩
    · simp only [Option.map_none] at hfi
      rw [← hfi]; simp [hsz]
    · unfold mupd
      by_cases hmn : m = i
      · subst hmn
        rw [if_pos rfl, ← midx_find, hmi]; rfl
      · rw [if_neg hmn, hf m]
  | some q =>
    obtain ⟨j, v0⟩ := q
    rw [hmi] at hfi
    obtain ⟨b, hb⟩ := midx_some l i j v0 hmi
    have hj := (List.getElem?_eq_some_iff.1 hb).1
    simp only [Sem.run_bind, hset, Result.andThen_ok, Sem.run_pure]
    refine ⟨_, hturn _, hK _ ⟨l.eraseIdx j, c, ?_, ?_, ?_, fun m => ?_, hbn.sublist ((List.eraseIdx_sublist _ _).map _), fun e he => hbc e (List.mem_of_mem_eraseIdx he)⟩⟩
    · congr 1
      apply Array.ext'
      rw [Array.eraseIdxIfInBounds, dif_pos (by simpa [ments] using hj)]
      simp [ments, er_map]
    · rw [← er_map]
      exact hnd.sublist (List.eraseIdx_sublist _ _)
    · simp only [Option.map_some] at hfi
      rw [← hfi, List.length_eraseIdx, if_pos hj]; simp [hsz]
    · rw [mfind_erase l i j v0 b hnd hb m, hf m]; rfl
/-- An entry is there, and which stamp it bears. -/
def MpEn (k : IntKind) (o : Obj) (f : Int → Option Value) (sz : Nat) (i : Int) (st : Nat) : Prop := ∃ (l : List (Int × Value × Nat)) (c : Nat), o = .map (ments k l) c ∧ (l.map (·.1)).Nodup ∧ l.length = sz ∧ (∀ n, mfind l n = f n) ∧ (l.map (·.2.2)).Nodup ∧ (∀ e, e ∈ l → e.2.2 < c) ∧ ∃ (v : Value) (j : Nat), l[j]? = some (i, v, st)
theorem ef_mapEntry (A R : List Blk) {T kt et r : Nat} {x y : Operand} {k : IntKind} {i : Int} {o : Obj} {f : Int → Option Value} {sz : Nat} {z : Value} [hT : Mp P T kt et] [hk : Ik P kt k] [h0 : T0 P et z] (hm : MpIs k o f sz) (hx : ev E x = some (.map (some r))) (hy : ev E y = some (.int k i))
    (hL : L = A ++ (r, o) :: R) (hK : ∀ (st : Nat) o', MpEn k o' (mupd f i (some ((f i).getD z))) (if (f i).isSome then sz else sz + 1) i st → K (.tuple #[(f i).getD z, .int .i64 st]) (A ++ (r, o') :: R)) : EF P W n L E ⟨d, .mapEntry T x y, t, pos, after, g⟩ K := by
  refine ⟨fun a w ha hw => ?_⟩
  obtain ⟨l, c, rfl, hnd, hsz, hf, hbn, hbc⟩ := hm
  subst hL
  have h1 := hw.mid
  have h2 := run_checkKey (P := P) (kt := kt) (k := k) false i w
  have h3 := run_findKey (P := P) (kt := kt) (k := k) i l w
  have h4 := h0.h w
  have h5 : (getObj r).run P w = .ok (.map (ments k l) c) w := by simp [getObj, Sem.run, h1]
  have hset : ∀ o', (setObj r o').run P w = .ok () { w with heap := w.heap.setIfInBounds r o' } := fun o' => by simp [setObj, Sem.run, h1]
  have hlt : r < w.heap.size := (Array.getElem?_eq_some_iff.1 h1).1
  have hturn : ∀ o', Hp W { w with heap := w.heap.setIfInBounds r o' } (A ++ (r, o') :: R) := fun o' =>
    hw.turnAt rfl rfl rfl (Array.getElem?_setIfInBounds_self_of_lt hlt) (fun q hq => Array.getElem?_setIfInBounds_ne (Ne.symm hq))
  have hrun : (execOp a.eval ⟨d, .mapEntry T x y, t, pos, after, g⟩).run P w = ((Instr.mapEntry T (.map (some r)) (.int k i)).run P w).andThen fun v w' => .ok (.value v) w' := by
    simp [execOp, ha.eval hx, ha.eval hy]
  rw [hrun]
  simp only [Instr.mapEntry, Sem.run_bind, run_underlying hT.h, Result.andThen_ok, h5, h2, h3]
  have hfi := hf i
  rw [← midx_find] at hfi
  cases hmi : midx l i with
  | none =>
    rw [hmi] at hfi
    simp only [Option.map_none] at hfi
    simp only [Sem.run_bind, h4, hset, Result.andThen_ok, Sem.run_pure]
    have hk1 := hK c (.map (ments k (l ++ [(i, z, c)])) (c + 1)) ⟨l ++ [(i, z, c)], c + 1, rfl, ?_, ?_, fun m => ?_, born_push hbn hbc, born_lt hbc, z, l.length, by simp⟩
    · have hments : (ments k l).push ⟨.int k i, z, c⟩ = ments k (l ++ [(i, z, c)]) := by simp [ments]
      rw [hments]
      rw [← hfi] at hk1
      exact ⟨_, hturn _, hk1⟩
    · rw [List.map_append, List.map_cons, List.map_nil]
      exact List.nodup_append.2 ⟨hnd, by simp, by
        intro a ha b hb e
        simp only [List.mem_singleton] at hb
        subst hb; subst e
        exact midx_none l _ hmi ha⟩
    · rw [← hfi]; simp [hsz]
    · rw [mfind_push l i z c (midx_none l i hmi) m, hf m, ← hfi]; rfl
  | some q =>
    obtain ⟨j, v0⟩ := q
    rw [hmi] at hfi
    simp only [Option.map_some] at hfi
    obtain ⟨b, hb⟩ := midx_some l i j v0 hmi
    have hes : (ments k l)[j]? = some ⟨.int k i, v0, b⟩ := by simp [ments, hb]
    have hkt : (Instr.keyThatStays (((ments k l)[j]?.map (·.key)).getD (.int k i)) (.int k i)).run P w = .ok (.int k i) w := by
      rw [hes]
      simp [Instr.keyThatStays, sameBits_int]
    have hgb : ((ments k l)[j]?.map (fun x => (x.born : Int))).getD 0 = (b : Int) := by rw [hes]; rfl
    simp only [Sem.run_bind, hkt, Result.andThen_ok, hset, Sem.run_pure, hgb]
    have hk1 := hK b (.map (ments k (l.set j (i, v0, b))) c) ⟨l.set j (i, v0, b), c, rfl, ?_, ?_, fun m => ?_, born_set hb hbn, fun e he => ?_, v0, j, ?_⟩
    · rw [← hfi] at hk1
      have hments : (ments k l).modify j (fun e => { e with key := .int k i }) = ments k (l.set j (i, v0, b)) := by
        apply Array.ext'
        simp only [ments, Array.toList_modify]
        apply List.ext_getElem?
        intro q
        simp only [List.getElem?_modify, List.getElem?_map, List.getElem?_set]
        by_cases hq : j = q
        · subst hq
          obtain ⟨hj, hv⟩ := List.getElem?_eq_some_iff.1 hb
          simp [hv, hj]
        · simp [hq]
      rw [hments]
      exact ⟨_, hturn _, hk1⟩
    · have : (l.set j (i, v0, b)).map (·.1) = l.map (·.1) := by
        apply List.ext_getElem?
        intro q
        simp only [List.getElem?_map, List.getElem?_set]
        by_cases hq : j = q
        · subst hq
          obtain ⟨hj, hv⟩ := List.getElem?_eq_some_iff.1 hb
          simp [hv, hj]
        · simp [hq]
      rw [this]; exact hnd
    · rw [← hfi]; simp [hsz]
    · rw [mfind_set l i j v0 v0 b b hnd hb m, hf m, ← hfi]; rfl
    · rcases List.mem_or_eq_of_mem_set he with he | rfl
      · exact hbc e he
      · exact (show b < c from hbc (i, v0, b) (List.mem_of_getElem? hb))
    · have hj := (List.getElem?_eq_some_iff.1 hb).1
      simp [hj]
theorem ef_entryStore (A R : List Blk) {T r : Nat} {x s u : Operand} {k : IntKind} {i : Int} {st : Nat} {v : Value} {o : Obj} {f : Int → Option Value} {sz : Nat} (hm : MpEn k o f sz i st) (hx : ev E x = some (.map (some r))) (hs : ev E s = some (.int .i64 st)) (hu : ev E u = some v)
    (hL : L = A ++ (r, o) :: R) (hK : ∀ o', MpIs k o' (mupd f i (some v)) sz → K undef (A ++ (r, o') :: R)) : EF P W n L E ⟨d, .entryStore T x s u, t, pos, after, g⟩ K := by
  refine ⟨fun a w ha hw => ?_⟩
  obtain ⟨l, c, rfl, hnd, hsz, hf, hbn, hbc, v0, j, hj⟩ := hm
  subst hL
  have h1 := hw.mid
  have h5 : (getObj r).run P w = .ok (.map (ments k l) c) w := by simp [getObj, Sem.run, h1]
  have hset : ∀ o', (setObj r o').run P w = .ok () { w with heap := w.heap.setIfInBounds r o' } := fun o' => by simp [setObj, Sem.run, h1]
  have hlt : r < w.heap.size := (Array.getElem?_eq_some_iff.1 h1).1
  have hturn : ∀ o', Hp W { w with heap := w.heap.setIfInBounds r o' } (A ++ (r, o') :: R) := fun o' =>
    hw.turnAt rfl rfl rfl (Array.getElem?_setIfInBounds_self_of_lt hlt) (fun q hq => Array.getElem?_setIfInBounds_ne (Ne.symm hq))
  have hjl := (List.getElem?_eq_some_iff.1 hj).1
  have hfind : (ments k l).findIdx? (fun e => (e.born : Int) == (st : Int)) = some j := by
    unfold ments
    rw [List.findIdx?_toArray, List.findIdx?_eq_some_iff_getElem]
    refine ⟨by simpa using hjl, ?_, fun q hq => ?_⟩
    · have := (List.getElem?_eq_some_iff.1 hj).2
      simp [this]
    · have hd := List.pairwise_iff_getElem.1 hbn q j (by simp; omega) (by simpa using hjl) hq
      have := (List.getElem?_eq_some_iff.1 hj).2
      simp only [List.getElem_map, this] at hd
      simp only [List.getElem_map]
      simpa using fun e : ((l[q]'(by omega)).2.2 : Int) = st => hd (by omega)
  have hrun : (execOp a.eval ⟨d, .entryStore T x s u, t, pos, after, g⟩).run P w = .ok .skip { w with heap := w.heap.setIfInBounds r (.map ((ments k l).modify j fun e => { e with val := v }) c) } := by
    simp [execOp, ha.eval hx, ha.eval hs, ha.eval hu, Instr.entryStore, h5, asInt, asIntOf, hfind, hset]
  rw [hrun]
  have hments : (ments k l).modify j (fun e => { e with val := v }) = ments k (l.set j (i, v, st)) := by
    apply Array.ext'
    simp only [ments, Array.toList_modify]
    apply List.ext_getElem?
    intro q
    simp only [List.getElem?_modify, List.getElem?_map, List.getElem?_set]
    by_cases hq : j = q
    · subst hq
      obtain ⟨hj', hv⟩ := List.getElem?_eq_some_iff.1 hj
      simp [hv, hj']
    · simp [hq]
  rw [hments]
  refine ⟨_, hturn _, hK _ ⟨l.set j (i, v, st), c, rfl, ?_, by simp [hsz], fun m => ?_, born_set hj hbn, fun e he => ?_⟩⟩
  · have : (l.set j (i, v, st)).map (·.1) = l.map (·.1) := by
      apply List.ext_getElem?
      intro q
      simp only [List.getElem?_map, List.getElem?_set]
      by_cases hq : j = q
      · subst hq
        obtain ⟨hj', hv⟩ := List.getElem?_eq_some_iff.1 hj
        simp [hv, hj']
      · simp [hq]
    rw [this]; exact hnd
  · rw [mfind_set l i j v0 v st st hnd hj m, hf m]; rfl
  · rcases List.mem_or_eq_of_mem_set he with he | rfl
    · exact hbc e he
    · exact (show st < c from hbc (i, v0, st) (List.mem_of_getElem? hj))
end
end Go.Proofs.Ytoolgphkfnkajaa.X
/-
  Words of my own for walks, ninth part: a region whose order is open, in which a cell is read and written: what stays is told by S; two that come up together are gone through in both orders. No condition; generic over the program.
-/
namespace Go.Proofs.Ytoolgphkfnkajaa.X
open Go Go.RowKit
set_option linter.unusedVariables false

structure XS (P : Program) (W : World) (n : Nat) (ops : Array Oper) (Q : Exit → Act → World → Prop) (S : World → Prop) (fuel : Nat) (listed : Array Bool) (L : List Blk) (E : List (Nat × Value)) : Prop where
  run : ∀ a w, Env n a E → Hp W w L → wpAnyH P .any ops (NoPanic Q) S fuel listed a w

section
variable {P : Program} {W : World} {n : Nat} {ops : Array Oper} {Q : Exit → Act → World → Prop} {S : World → Prop} {L : List Blk} {fuel : Nat} {listed : Array Bool} {E : List (Nat × Value)}
theorem xs_draw (S : World → Prop) {id : Nat} [hm : Mx P] (h : XS P W n ops Q S ops.size (Array.replicate ops.size false) L E) : XC P W n (.region id ops true) Q L E := .mk fun a w ha hw =>
  wp_region_noPanic (wp_region_held hm.h (h.run a _ ha hw.drew))
theorem xs_take (i : Nat) {d : Option Nat} {op : Op} {t : TypeId} {pos : String} {after : Array Edge} {v : Value} (hi : ops[i]? = some ⟨d, op, t, pos, after, none⟩)
    (hs : Region.noSelect ops = true) (hf : Region.free .any ops listed i = true) (hr : (Region.ready .any ops listed).contains i = true) (hM : ∀ w, Hp W w L → S w)
    (hv : ∀ w, S w → ∃ M, Hp W w M ∧ RD P W n M E ⟨d, op, t, pos, after, none⟩ v) (hd : okd n d = true) (h : XS P W n ops Q S fuel (listed.setIfInBounds i true) L (pt E d v)) : XS P W n ops Q S (fuel + 1) listed L E := .mk fun a w ha hw =>
  wpAnyH_take (v := v) hi hs hf hr (fun c a w hq => hq) (.inl ⟨rfl, fun w' hw' => by obtain ⟨M, h1, h2⟩ := hv w' hw'; exact h2.run a w' ha h1⟩) (hM w hw) (h.run _ w (ha.pt d v hd) hw)
theorem xs_step {i : Nat} {d : Option Nat} {op : Op} {t : TypeId} {pos : String} {after : Array Edge} (hi : ops[i]? = some ⟨d, op, t, pos, after, none⟩) (hd : okd n d = true)
    (hv : EF P W n L E ⟨d, op, t, pos, after, none⟩ (fun v L' => (∀ w, Hp W w L' → S w) ∧ XS P W n ops Q S fuel (listed.setIfInBounds i true) L' (pt E d v))) {a : Act} {w : World} (ha : Env n a E) (hw : Hp W w L) :
    wpOp P ops (NoPanic Q) i (fun a' w' => S w' ∧ wpAnyH P .any ops (NoPanic Q) S fuel (listed.setIfInBounds i true) a' w') a w := by
  unfold wpOp
  simp only [hi, Region.wanted, if_true]
  refine .inl ?_
  unfold Oper.wp
  exact effUp.upon (hv.run a w ha hw) fun v w' ⟨L', h1, h2, h3⟩ => ⟨h2 _ h1, h3.run _ _ (ha.pt d v hd) h1⟩
theorem xs_one (i : Nat) {d : Option Nat} {op : Op} {t : TypeId} {pos : String} {after : Array Edge} (hi : ops[i]? = some ⟨d, op, t, pos, after, none⟩)
    (hr : Region.ready .any ops listed = [i]) (hd : okd n d = true)
    (hv : EF P W n L E ⟨d, op, t, pos, after, none⟩ (fun v L' => (∀ w, Hp W w L' → S w) ∧ XS P W n ops Q S fuel (listed.setIfInBounds i true) L' (pt E d v))) : XS P W n ops Q S (fuel + 1) listed L E := .mk fun a w ha hw => by
  refine wpAnyH_all hr (by simp) fun j hj => ?_
  obtain rfl : j = i := by simpa using hj
  exact xs_step hi hd hv ha hw
theorem xs_two (i k : Nat) {d d2 : Option Nat} {op op2 : Op} {t t2 : TypeId} {pos pos2 : String} {after after2 : Array Edge} (hi : ops[i]? = some ⟨d, op, t, pos, after, none⟩) (hk : ops[k]? = some ⟨d2, op2, t2, pos2, after2, none⟩)
    (hr : Region.ready .any ops listed = [i, k]) (hd : okd n d = true) (hd2 : okd n d2 = true)
    (hv : EF P W n L E ⟨d, op, t, pos, after, none⟩ (fun v L' => (∀ w, Hp W w L' → S w) ∧ XS P W n ops Q S fuel (listed.setIfInBounds i true) L' (pt E d v)))
    (hv2 : EF P W n L E ⟨d2, op2, t2, pos2, after2, none⟩ (fun v L' => (∀ w, Hp W w L' → S w) ∧ XS P W n ops Q S fuel (listed.setIfInBounds k true) L' (pt E d2 v))) : XS P W n ops Q S (fuel + 1) listed L E := .mk fun a w ha hw => by
  refine wpAnyH_all hr (by simp) fun j hj => ?_
  have hj' : j = i ∨ j = k := by simpa using hj
  rcases hj' with rfl | rfl
  · exact xs_step hi hd hv ha hw
  · exact xs_step hk hd2 hv2 ha hw
theorem xs_done (hr : Region.ready .any ops listed = []) (h : XQ W n Q .normal L E) : XS P W n ops Q S fuel listed L E := .mk fun a w ha hw =>
  wpAnyH_done (Q := NoPanic Q) hr (h.run a w ha hw) fuel
end
section
variable {P : Program} {W : World} {n : Nat} {L : List Blk} {E : List (Nat × Value)}
/-- The results are one whole block, and a value. -/
theorem xq_retB2 {K : Value → List Blk → Prop} {fn : Func} {t u T b m : Nat} {vs : List Value} {x : Value} {T' : TypeId} {fr : Nat × Nat} {e : Exit} [hA : Ta P T true] [hS : Ts P T m] (he : e = .ret ∨ e = .normal) (hr : fn.results = #[.cell t T, .tmp u]) (ht : lk E t = some (.pointer (some ⟨b, 0, none⟩)))
    (hu : lk E u = some x) (hk : Kn W L b (.cells vs.toArray T' fr)) (hm : vs.length = m) {L' : List Blk} (hL : L'.Sublist L) (h : K (.tuple #[.agg vs.toArray, x]) L') : XQ W n (bodyPost P fn (XP W K)) e L E :=
  xq_retg' hL he (fun a w ha hw => by
    have h1 := hA.h w
    have h2 := hS.h w
    subst hm
    have hl := run_loadCells_list (P := P) w ⟨b, 0, none⟩ vs (fun j v hj => by
      rw [add_zero', Nat.zero_add]
      exact (Cl.get (L := L) ⟨_, _, _, hk, by simpa using hj⟩ hw))
    have hv := ha.val t _ ht
    have hv2 := ha.val u _ hu
    simp [results, hr, Array.getD_eq_getD_getElem?, hv, hv2, asAddr, loadVar, h1, h2, hl]) h
end
end Go.Proofs.Ytoolgphkfnkajaa.X
/-
  Words of my own for walks, tenth part: a function whose contract stands for every world with no own blocks leaves any own blocks as they are. No condition; generic over the program.
-/
namespace Go.Proofs.Ytoolgphkfnkajaa.X
open Go Go.RowKit
set_option linter.unusedVariables false
theorem Hp.over {W w w' : World} {L L' : List Blk} (h : Hp W w L) (h' : Hp w w' L') : Hp W w' L :=
  ⟨h'.os.trans h.os, h'.tape.trans h.tape, h'.output.trans h.output, fun b o hb => h'.base b o (h.base b o hb), fun p hp => h'.base _ _ (h.own p hp), h.nod, h.hi⟩
theorem xf_any {P : Program} {W : World} {L : List Blk} {f : FuncId} {args : Array Value} {v0 : Value} (h : ∀ W, XF P W f args [] (fun v L' => v = v0)) : XF P W f args L (fun v L' => v = v0 ∧ L' = L) := .mk fun w hw =>
  Calls.mono ((h w).run w (Hp.start w)) fun e w' ⟨v, h1, L', h2, h3⟩ => ⟨v, h1, L, hw.over h2, h3, rfl⟩
/-- The own blocks as part of the base: what is known of a cell stays known. -/
theorem Cl.over {W w : World} {L : List Blk} {b i : Nat} {v : Value} (hw : Hp W w L) (h : Cl W L b i v) : Cl w [] b i v := by
  obtain ⟨vs, T, fr, hk, hi⟩ := h
  refine ⟨vs, T, fr, ?_, hi⟩
  rcases hk with hk | hk
  · exact .inl (hw.base _ _ hk)
  · exact .inl (hw.own _ hk)
section
variable {P : Program} {W : World} {n : Nat} {L : List Blk} {E : List (Nat × Value)} {d : Option Nat} {t : TypeId} {pos : String} {after : Array Edge} {g : Option (Nat × Bool)} {K : Value → List Blk → Prop}
/-- A slice built of parts of which it is known what they are. -/
theorem ef_buildL {T len : Nat} {parts : List (Nat × Operand)} {e s : Nat} {z : Value} {vs : List (Nat × Value)} {cells : Array Value} [hT : Sl P T e] [hS : Ts P e s] [h0 : T0 P e z] (hp : evp E parts = some vs) (hlen : len * s ≤ 16777216) (hpos : len * s ≠ 0)
    (hf : Instr.fill (fun i => some (i * s, s)) ((Array.range (len * s)).map (z.cells[· % z.cells.size]!)) vs = some cells)
    (hk : ∀ r, K (.slice (some ⟨r, 0, none⟩) len len) ((r, .cells cells e (0, 0)) :: L)) : EF P W n L E ⟨d, .buildSlice T len parts.toArray, t, pos, after, g⟩ K :=
  ef_buildSlice (z := z) (vs := vs.toArray) (fun a ha => by rw [List.map_toArray, ha.evalp hp]) hlen hpos hf hk
end
end Go.Proofs.Ytoolgphkfnkajaa.X
/-
  Words of my own for walks, eleventh part: branches inside regions that draw, three results, segments of own blocks. No condition; generic over the program.
-/
namespace Go.Proofs.Ytoolgphkfnkajaa.X
open Go Go.RowKit
set_option linter.unusedVariables false
set_option linter.unusedSimpArgs false
section
variable {P : Program} {W : World} {n : Nat} {ops : Array Oper} {Q : Exit → Act → World → Prop} {M L : List Blk} {fuel : Nat} {listed : Array Bool} {E : List (Nat × Value)}
theorem xc_drawL {id : Nat} [hm : Mx P] (h : XR P W n ops Q L ops.size (Array.replicate ops.size false) L E) : XC P W n (.region id ops true) Q L E := xc_draw L h
theorem xr_dec (t : Nat) {p : Prop} [hd : Decidable p] (ht : lk E t = some (.bool (decide p))) (h1 : p → XR P W n ops Q M fuel listed L ((t, .bool true) :: E)) (h2 : ¬p → XR P W n ops Q M fuel listed L ((t, .bool false) :: E)) : XR P W n ops Q M fuel listed L E :=
  xr_split t ht (fun h => h1 (of_decide_eq_true h)) (fun h => h2 (of_decide_eq_false h))
theorem xr_ndec (t : Nat) {p : Prop} [hd : Decidable p] (ht : lk E t = some (.bool (!decide p))) (h1 : ¬p → XR P W n ops Q M fuel listed L ((t, .bool true) :: E)) (h2 : p → XR P W n ops Q M fuel listed L ((t, .bool false) :: E)) : XR P W n ops Q M fuel listed L E :=
  xr_split t ht (fun h => h1 (by simpa using h)) (fun h => h2 (by simpa using h))
theorem Sb.app0 {M R : List Blk} : Sb M (M ++ R) := ⟨R, List.Perm.refl _⟩
/-- What is held, looked for. -/
theorem Sb.a {M L : List Blk} (h : Sb M L := by first | exact Sb.refl | exact Sb.nil | (repeat (first | exact Sb.nil | exact Sb.refl | exact Sb.app0 | apply Sb.keep | apply Sb.keepApp | apply Sb.cons | apply Sb.app))) : Sb M L := h
theorem Sb.perm {M L L' : List Blk} (h : Sb M L) (hp : L'.Perm L) : Sb M L' := by
  obtain ⟨R, h1⟩ := h
  exact ⟨R, hp.trans h1⟩
theorem xrx_perm {L' : List Blk} (hp : L.Perm L') (h : Sb M L' ∧ XR P W n ops Q M fuel listed L' E) : Sb M L ∧ XR P W n ops Q M fuel listed L E := ⟨h.1.perm hp, xr_perm hp h.2⟩
theorem xrx_mid (A : List Blk) {p : Blk} {R : List Blk} (h : Sb M (A ++ p :: R) ∧ XR P W n ops Q M fuel listed (A ++ p :: R) E) : Sb M (p :: (A ++ R)) ∧ XR P W n ops Q M fuel listed (p :: (A ++ R)) E := xrx_perm List.perm_middle.symm h
theorem seg_perm (A S R : List Blk) : (A ++ (S ++ R)).Perm (S ++ (A ++ R)) := by
  rw [← List.append_assoc, ← List.append_assoc]
  exact List.perm_append_comm.append_right R
/-- The blocks that a function wants lie further in. -/
theorem XF.seg (A S R : List Blk) {f : FuncId} {args : Array Value} {K : Value → List Blk → Prop} (h : XF P W f args (S ++ (A ++ R)) K) : XF P W f args (A ++ (S ++ R)) K := h.perm (seg_perm A S R)
theorem xo_seg (A S R : List Blk) {rest : List Oper} (h : XO P W n ops Q rest (A ++ (S ++ R)) E) : XO P W n ops Q rest (S ++ (A ++ R)) E := xo_perm (seg_perm A S R).symm h
theorem xrx_seg (A S R : List Blk) (h : Sb M (A ++ (S ++ R)) ∧ XR P W n ops Q M fuel listed (A ++ (S ++ R)) E) : Sb M (S ++ (A ++ R)) ∧ XR P W n ops Q M fuel listed (S ++ (A ++ R)) E := xrx_perm (seg_perm A S R).symm h
end
theorem xq_ret3 {P : Program} {W : World} {L : List Blk} {K : Value → List Blk → Prop} {fn : Func} {n : Nat} {E : List (Nat × Value)} {t u s : Nat} {v x y : Value} {e : Exit} (he : e = .ret ∨ e = .normal) (hr : fn.results = #[.tmp t, .tmp u, .tmp s]) (ht : lk E t = some v) (hu : lk E u = some x) (hs : lk E s = some y) (h : K (.tuple #[v, x, y]) L) : XQ W n (bodyPost P fn (XP W K)) e L E :=
  xq_retg he (fun a w ha hw => by
    have h1 := ha.val t _ ht
    have h2 := ha.val u _ hu
    have h3 := ha.val s _ hs
    simp [results, hr, Array.getD_eq_getD_getElem?, h1, h2, h3]) h
end Go.Proofs.Ytoolgphkfnkajaa.X
/-
  Words of my own for walks, twelfth part: regions whose order is open, with what has come up kept as the bits of one number. No condition; generic over the program.
-/
namespace Go.Proofs.Ytoolgphkfnkajaa.X
open Go Go.RowKit
set_option linter.unusedVariables false
set_option linter.unusedSimpArgs false

theorem tb_foldl {α : Type} (p : α → Bool) (f : α → Nat) : ∀ (l : List α) (m k : Nat), (l.foldl (fun m x => if p x then m ||| (1 <<< f x) else m) m).testBit k = (m.testBit k || l.any fun x => p x && f x == k)
  | [], m, k => by simp
  | x :: r, m, k => by
    rw [List.foldl_cons, tb_foldl p f r, List.any_cons]
    cases hp : p x
    · simp
    · simp only [if_true, Nat.testBit_or, Nat.one_shiftLeft, Nat.testBit_two_pow, Bool.true_and]
      rw [Bool.or_assoc]
      congr 2
theorem land_sub {t m k : Nat} (h : Nat.land t m = t) (hk : t.testBit k = true) : m.testBit k = true := by
  have h1 : (t &&& m).testBit k = t.testBit k := by rw [show t &&& m = t from h]
  rw [Nat.testBit_and, hk] at h1
  simpa using h1
theorem land_of {t m : Nat} (h : ∀ k, t.testBit k = true → m.testBit k = true) : Nat.land t m = t := by
  apply Nat.eq_of_testBit_eq
  intro k
  show (t &&& m).testBit k = _
  rw [Nat.testBit_and]
  cases hk : t.testBit k
  · rfl
  · rw [h k hk]; rfl

def edgeMask (o : Oper) : Nat := o.after.toList.foldl (fun m e => if Region.binds .any e then m ||| (1 <<< e.on) else m) 0
def pmOf (ops : Array Oper) : List Nat := ops.toList.map edgeMask
def waitsFor (oj : Oper) (i : Nat) : Bool := oj.after.any (fun e => Region.binds .any e && e.on == i)
def confMask (ops : Array Oper) (l : List (Oper × Nat)) (oi : Oper) (i : Nat) : Nat := l.foldl (fun m q => if !(q.2 == i || waitsFor q.1 i || oi.apart ops q.1) then m ||| (1 <<< q.2) else m) 0
def tmOf (ops : Array Oper) : List Nat := ops.toList.zipIdx.map fun q => Nat.lor (edgeMask q.1) (confMask ops ops.toList.zipIdx q.1 q.2)
def readyM : List (Nat × Nat) → Nat → List Nat
  | [], _ => []
  | (p, i) :: r, m => match Nat.beq (Nat.land p m) p && !Nat.testBit m i with
    | true => i :: readyM r m
    | false => readyM r m
def okB (tm : List Nat) (m i : Nat) : Bool := match tm[i]? with
  | some t => Nat.beq (Nat.land t m) t && !Nat.testBit m i
  | none => false

structure Rep (N : Nat) (listed : Array Bool) (m : Nat) : Prop where
  size : listed.size = N
  bit : ∀ j, listed.getD j false = m.testBit j
theorem Rep.start (N : Nat) : Rep N (Array.replicate N false) 0 := ⟨by simp, fun j => by simp [Array.getD_eq_getD_getElem?, Array.getElem?_replicate]; split <;> rfl⟩
theorem Rep.bit' {N m : Nat} {listed : Array Bool} (h : Rep N listed m) {j : Nat} (hj : j < N) : listed.getD j true = m.testBit j := by
  rw [← h.bit j]
  have : j < listed.size := by rw [h.size]; exact hj
  simp [Array.getD_eq_getD_getElem?, this]
theorem Rep.set {N m i : Nat} {listed : Array Bool} (h : Rep N listed m) (hi : i < N) : Rep N (listed.setIfInBounds i true) (m ||| (1 <<< i)) := by
  refine ⟨by simp [h.size], fun j => ?_⟩
  have hs : i < listed.size := by rw [h.size]; exact hi
  rw [Nat.testBit_or, ← h.bit j, Nat.one_shiftLeft, Nat.testBit_two_pow]
  by_cases hij : i = j
  · subst hij; simp [Array.getD_eq_getD_getElem?, hs]
  · simp [Array.getD_eq_getD_getElem?, hij]

theorem edge_bit {o : Oper} {k : Nat} : (edgeMask o).testBit k = o.after.any fun e => Region.binds .any e && e.on == k := by
  unfold edgeMask
  rw [tb_foldl (fun e => Region.binds .any e) (fun e : Edge => e.on)]
  simp
theorem ready_iff {ops : Array Oper} {listed : Array Bool} {m : Nat} (h : Rep ops.size listed m) {i : Nat} {o : Oper} (ho : ops[i]? = some o) :
    i ∈ Region.ready .any ops listed ↔ (Nat.beq (Nat.land (edgeMask o) m) (edgeMask o) && !Nat.testBit m i) = true := by
  have hi := (Array.getElem?_eq_some_iff.1 ho).1
  rw [mem_ready, h.bit' hi, Bool.and_eq_true, Nat.beq_eq]
  constructor
  · rintro ⟨h1, o', ho', h2⟩
    rw [ho] at ho'
    cases ho'
    refine ⟨land_of fun k hk => ?_, by simp [h1]⟩
    rw [edge_bit, Array.any_eq_true'] at hk
    obtain ⟨e, he, hb⟩ := hk
    simp only [Bool.and_eq_true, beq_iff_eq] at hb
    rw [← h.bit, ← hb.2]
    exact h2 e he hb.1
  · rintro ⟨h1, h2⟩
    refine ⟨by simpa using h2, o, ho, fun e he hb => ?_⟩
    rw [h.bit]
    refine land_sub h1 ?_
    rw [edge_bit, Array.any_eq_true']
    exact ⟨e, he, by simp [hb]⟩
theorem readyM_mem {m : Nat} : ∀ (l : List (Nat × Nat)) (i : Nat), i ∈ readyM l m ↔ ∃ p, (p, i) ∈ l ∧ (Nat.beq (Nat.land p m) p && !Nat.testBit m i) = true
  | [], i => by simp [readyM]
  | (p, k) :: r, i => by
    unfold readyM
    have ih := readyM_mem (m := m) r i
    split
    · rename_i hb
      rw [List.mem_cons, ih]
      constructor
      · rintro (rfl | ⟨q, hq, h⟩)
        · exact ⟨p, List.mem_cons_self, hb⟩
        · exact ⟨q, List.mem_cons_of_mem _ hq, h⟩
      · rintro ⟨q, hq, h⟩
        rcases List.mem_cons.1 hq with e | hq
        · cases e; exact .inl rfl
        · exact .inr ⟨q, hq, h⟩
    · rename_i hb
      rw [ih]
      constructor
      · rintro ⟨q, hq, h⟩
        exact ⟨q, List.mem_cons_of_mem _ hq, h⟩
      · rintro ⟨q, hq, h⟩
        rcases List.mem_cons.1 hq with e | hq
        · cases e; rw [h] at hb; cases hb
        · exact ⟨q, hq, h⟩
theorem ready_readyM {ops : Array Oper} {listed : Array Bool} {m : Nat} (h : Rep ops.size listed m) (i : Nat) : i ∈ Region.ready .any ops listed ↔ i ∈ readyM (pmOf ops).zipIdx m := by
  rw [readyM_mem]
  constructor
  · intro hi
    obtain ⟨_, o, ho, _⟩ := mem_ready.1 hi
    refine ⟨edgeMask o, ?_, (ready_iff h ho).1 hi⟩
    rw [List.mem_zipIdx_iff_getElem?]
    simp [pmOf, ho]
  · rintro ⟨p, hp, hb⟩
    rw [List.mem_zipIdx_iff_getElem?] at hp
    simp only [pmOf, List.getElem?_map, Array.getElem?_toList, Option.map_eq_some_iff] at hp
    obtain ⟨o, ho, rfl⟩ := hp
    exact (ready_iff h ho).2 hb

structure XM (P : Program) (W : World) (n : Nat) (ops : Array Oper) (Q : Exit → Act → World → Prop) (M : List Blk) (pm tm : List Nat) (fuel m : Nat) (L : List Blk) (E : List (Nat × Value)) : Prop where
  run : pmOf ops = pm → tmOf ops = tm → Region.noSelect ops = true → ∀ listed, Rep ops.size listed m → ∀ a w, Env n a E → Hp W w L → wpAnyH P .any ops (NoPanic Q) (fun w => Hp W w M) fuel listed a w

section
variable {P : Program} {W : World} {n : Nat} {ops : Array Oper} {Q : Exit → Act → World → Prop} {M L : List Blk} {pm tm : List Nat} {fuel m m' : Nat} {E : List (Nat × Value)}
theorem xc_drawM (pm tm : List Nat) (M : List Blk) {id : Nat} [hm : Mx P] (h1 : pmOf ops = pm) (h2 : tmOf ops = tm) (h3 : Region.noSelect ops = true) (h : XM P W n ops Q M pm tm ops.size 0 L E) : XC P W n (.region id ops true) Q L E := .mk fun a w ha hw =>
  wp_region_noPanic (wp_region_held hm.h (h.run h1 h2 h3 _ (Rep.start _) a _ ha hw.drew))
theorem xc_drawML (pm tm : List Nat) {id : Nat} [hm : Mx P] (h1 : pmOf ops = pm) (h2 : tmOf ops = tm) (h3 : Region.noSelect ops = true) (h : XM P W n ops Q L pm tm ops.size 0 L E) : XC P W n (.region id ops true) Q L E := xc_drawM pm tm L h1 h2 h3 h
theorem xm_first {i : Nat} {oi : Oper} {v : Value} {listed : Array Bool} {a : Act} {w : World} (h1 : pmOf ops = pm) (h2 : tmOf ops = tm) (h3 : Region.noSelect ops = true) (hi : ops[i]? = some oi) (hok : okB tm m i = true) (hr : Rep ops.size listed m)
    (hy : YieldsIf P ops (fun w => Hp W w M) oi v a) (hS : Hp W w M) (h : wpAnyH P .any ops (NoPanic Q) (fun w => Hp W w M) fuel (listed.setIfInBounds i true) (a.put oi.dst v) w) : wpAnyH P .any ops (NoPanic Q) (fun w => Hp W w M) (fuel + 1) listed a w := by
  have hlt := (Array.getElem?_eq_some_iff.1 hi).1
  unfold okB at hok
  split at hok
  · rename_i t ht
    have htt : t = Nat.lor (edgeMask oi) (confMask ops ops.toList.zipIdx oi i) := by
      rw [← h2] at ht
      simp only [tmOf, List.getElem?_map, List.getElem?_zipIdx, Array.getElem?_toList, hi, Option.map_some, Nat.zero_add, Option.some.injEq] at ht
      exact ht.symm
    rw [Bool.and_eq_true, Nat.beq_eq] at hok
    obtain ⟨hok1, hok2⟩ := hok
    have hsub : ∀ k, (edgeMask oi).testBit k = true ∨ (confMask ops ops.toList.zipIdx oi i).testBit k = true → m.testBit k = true := fun k hk => land_sub hok1 (by
      rw [htt]
      show (edgeMask oi ||| confMask ops ops.toList.zipIdx oi i).testBit k = true
      rw [Nat.testBit_or, Bool.or_eq_true]; exact hk)
    refine wpAnyH_first hi (Region.noSelect_spec h3) (fun c a w hq => hq) fuel listed a w (fun j oj hj hne hun hno => ?_) ((ready_iff hr hi).2 ?_) hy hS h
    · have hjl := (Array.getElem?_eq_some_iff.1 hj).1
      rw [hr.bit' hjl] at hun
      cases hap : oi.apart ops oj
      · exfalso
        have hw : waitsFor oj i = false := by
          cases hw : waitsFor oj i
          · rfl
          · unfold waitsFor at hw
            rw [Array.any_eq_true'] at hw
            obtain ⟨e, he, hb⟩ := hw
            simp only [Bool.and_eq_true, beq_iff_eq] at hb
            exact absurd hb.2 (hno e he hb.1)
        have := hsub j (.inr (by
          unfold confMask
          rw [tb_foldl (fun q : Oper × Nat => !(q.2 == i || waitsFor q.1 i || oi.apart ops q.1)) (fun q => q.2)]
          rw [Bool.or_eq_true, List.any_eq_true]
          refine .inr ⟨(oj, j), ?_, ?_⟩
          · rw [List.mem_zipIdx_iff_getElem?]; simpa using hj
          · simp [hap, hw, hne]))
        rw [this] at hun; cases hun
      · rfl
    · rw [Bool.and_eq_true, Nat.beq_eq]
      exact ⟨land_of fun k hk => hsub k (.inl hk), hok2⟩
  · cases hok
theorem xm_take (i : Nat) {d : Option Nat} {op : Op} {t : TypeId} {pos : String} {after : Array Edge} {v : Value} (hi : ops[i]? = some ⟨d, op, t, pos, after, none⟩)
    (hok : okB tm m i = true) (hM : Sb M L) (hv : RD P W n M E ⟨d, op, t, pos, after, none⟩ v) (hd : okd n d = true) (hm : m ||| (1 <<< i) = m') (h : XM P W n ops Q M pm tm fuel m' L (pt E d v)) : XM P W n ops Q M pm tm (fuel + 1) m L E := .mk fun h1 h2 h3 listed hr a w ha hw =>
  xm_first h1 h2 h3 hi hok hr (.inl ⟨rfl, fun w' hw' => hv.run a w' ha hw'⟩) (hM.hp hw) (h.run h1 h2 h3 _ (hm ▸ hr.set (Array.getElem?_eq_some_iff.1 hi).1) _ w (ha.pt d v hd) hw)
theorem xm_gtake (i : Nat) {d : Option Nat} {op : Op} {t : TypeId} {pos : String} {after : Array Edge} {v : Value} {g gt : Nat} {b : Bool} (hi : ops[i]? = some ⟨d, op, t, pos, after, some (g, b)⟩)
    (hok : okB tm m i = true) (hM : Sb M L) (hg : (ops[g]?).bind (·.dst) = some gt) (ht : lk E gt = some (.bool b)) (hv : RD P W n M E ⟨d, op, t, pos, after, some (g, b)⟩ v) (hd : okd n d = true) (hm : m ||| (1 <<< i) = m') (h : XM P W n ops Q M pm tm fuel m' L (pt E d v)) : XM P W n ops Q M pm tm (fuel + 1) m L E := .mk fun h1 h2 h3 listed hr a w ha hw =>
  xm_first h1 h2 h3 hi hok hr (.inl ⟨by simp [Region.wanted, yielded_of (ops := ops) ha hg ht], fun w' hw' => hv.run a w' ha hw'⟩) (hM.hp hw) (h.run h1 h2 h3 _ (hm ▸ hr.set (Array.getElem?_eq_some_iff.1 hi).1) _ w (ha.pt d v hd) hw)
theorem xm_gskip (i : Nat) {d : Option Nat} {op : Op} {t : TypeId} {pos : String} {after : Array Edge} {g gt : Nat} {b c : Bool} (hi : ops[i]? = some ⟨d, op, t, pos, after, some (g, b)⟩)
    (hok : okB tm m i = true) (hM : Sb M L) (hg : (ops[g]?).bind (·.dst) = some gt) (ht : lk E gt = some (.bool c)) (hc : (c == b) = false) (hd : okd n d = true) (hm : m ||| (1 <<< i) = m') (h : XM P W n ops Q M pm tm fuel m' L (pt E d undef)) : XM P W n ops Q M pm tm (fuel + 1) m L E := .mk fun h1 h2 h3 listed hr a w ha hw =>
  xm_first (v := undef) h1 h2 h3 hi hok hr (.inr ⟨by simpa [Region.wanted, yielded_of (ops := ops) ha hg ht] using hc, rfl⟩) (hM.hp hw) (h.run h1 h2 h3 _ (hm ▸ hr.set (Array.getElem?_eq_some_iff.1 hi).1) _ w (ha.pt d undef hd) hw)
theorem yielded_un {a : Act} (ha : Env n a E) {g t : Nat} (hg : (ops[g]?).bind (·.dst) = some t) (ht : lk E t = some undef) : yielded ops a.tmps g = none := by
  unfold yielded
  rw [hg]
  simp only [Option.bind_some]
  rw [ha.val t _ ht]
  rfl
/-- The guard itself was left out. -/
theorem xm_gskipU (i : Nat) {d : Option Nat} {op : Op} {t : TypeId} {pos : String} {after : Array Edge} {g gt : Nat} {b : Bool} (hi : ops[i]? = some ⟨d, op, t, pos, after, some (g, b)⟩)
    (hok : okB tm m i = true) (hM : Sb M L) (hg : (ops[g]?).bind (·.dst) = some gt) (ht : lk E gt = some undef) (hd : okd n d = true) (hm : m ||| (1 <<< i) = m') (h : XM P W n ops Q M pm tm fuel m' L (pt E d undef)) : XM P W n ops Q M pm tm (fuel + 1) m L E := .mk fun h1 h2 h3 listed hr a w ha hw =>
  xm_first (v := undef) h1 h2 h3 hi hok hr (.inr ⟨by simp [Region.wanted, yielded_un (ops := ops) ha hg ht], rfl⟩) (hM.hp hw) (h.run h1 h2 h3 _ (hm ▸ hr.set (Array.getElem?_eq_some_iff.1 hi).1) _ w (ha.pt d undef hd) hw)
theorem xo_gskipU {rest : List Oper} {d : Option Nat} {op : Op} {t : TypeId} {pos : String} {after : Array Edge} {g gt : Nat} {b : Bool}
    (hg : (ops[g]?).bind (·.dst) = some gt) (ht : lk E gt = some undef) (hd : okd n d = true)
    (h : XO P W n ops Q rest L (pt E d undef)) : XO P W n ops Q (⟨d, op, t, pos, after, some (g, b)⟩ :: rest) L E := by
  refine ⟨fun a w ha hw => ?_⟩
  unfold wpList
  have hy := yielded_un (ops := ops) ha hg ht
  rw [if_neg (by simp [Region.wanted, hy])]
  exact h.run _ _ (ha.pt d undef hd) hw
theorem ready_one {listed : Array Bool} {i : Nat} (h1 : pmOf ops = pm) (hr : Rep ops.size listed m) (hi : readyM pm.zipIdx m = [i]) {j : Nat} (hj : j ∈ Region.ready .any ops listed) : j = i := by
  rw [ready_readyM hr, h1, hi] at hj
  simpa using hj
theorem ready_ne {listed : Array Bool} {i : Nat} (h1 : pmOf ops = pm) (hr : Rep ops.size listed m) (hi : readyM pm.zipIdx m = [i]) : Region.ready .any ops listed ≠ [] := fun h => by
  have : i ∈ Region.ready .any ops listed := by rw [ready_readyM hr, h1, hi]; simp
  rw [h] at this; cases this
theorem xm_one (i : Nat) {d : Option Nat} {op : Op} {t : TypeId} {pos : String} {after : Array Edge} (hi : ops[i]? = some ⟨d, op, t, pos, after, none⟩)
    (hr : readyM pm.zipIdx m = [i]) (hd : okd n d = true) (hm : m ||| (1 <<< i) = m')
    (hv : EF P W n L E ⟨d, op, t, pos, after, none⟩ (fun v L' => Sb M L' ∧ XM P W n ops Q M pm tm fuel m' L' (pt E d v))) : XM P W n ops Q M pm tm (fuel + 1) m L E := .mk fun h1 h2 h3 listed hrp a w ha hw => by
  refine ⟨fun h => absurd h (ready_ne h1 hrp hr), fun j hj => ?_⟩
  obtain rfl := ready_one h1 hrp hr hj
  unfold wpOp
  simp only [hi, Region.wanted, if_true]
  refine .inl ?_
  unfold Oper.wp
  exact effUp.upon (hv.run a w ha hw) fun v w' ⟨L', h5, h6, h7⟩ => ⟨h6.hp h5, h7.run h1 h2 h3 _ (hm ▸ hrp.set (Array.getElem?_eq_some_iff.1 hi).1) _ _ (ha.pt d v hd) h5⟩
theorem xm_step {i : Nat} {d : Option Nat} {op : Op} {t : TypeId} {pos : String} {after : Array Edge} {listed : Array Bool} (h1 : pmOf ops = pm) (h2 : tmOf ops = tm) (h3 : Region.noSelect ops = true) (hi : ops[i]? = some ⟨d, op, t, pos, after, none⟩) (hd : okd n d = true) (hm : m ||| (1 <<< i) = m') (hrp : Rep ops.size listed m)
    (hv : EF P W n L E ⟨d, op, t, pos, after, none⟩ (fun v L' => Sb M L' ∧ XM P W n ops Q M pm tm fuel m' L' (pt E d v))) {a : Act} {w : World} (ha : Env n a E) (hw : Hp W w L) :
    wpOp P ops (NoPanic Q) i (fun a' w' => Hp W w' M ∧ wpAnyH P .any ops (NoPanic Q) (fun w => Hp W w M) fuel (listed.setIfInBounds i true) a' w') a w := by
  unfold wpOp
  simp only [hi, Region.wanted, if_true]
  refine .inl ?_
  unfold Oper.wp
  exact effUp.upon (hv.run a w ha hw) fun v w' ⟨L', h5, h6, h7⟩ => ⟨h6.hp h5, h7.run h1 h2 h3 _ (hm ▸ hrp.set (Array.getElem?_eq_some_iff.1 hi).1) _ _ (ha.pt d v hd) h5⟩
/-- Two that come up together: both orders. -/
theorem xm_two (i k : Nat) {mi mk : Nat} {d d2 : Option Nat} {op op2 : Op} {t t2 : TypeId} {pos pos2 : String} {after after2 : Array Edge} (hi : ops[i]? = some ⟨d, op, t, pos, after, none⟩) (hk : ops[k]? = some ⟨d2, op2, t2, pos2, after2, none⟩)
    (hr : readyM pm.zipIdx m = [i, k]) (hd : okd n d = true) (hd2 : okd n d2 = true) (hmi : m ||| (1 <<< i) = mi) (hmk : m ||| (1 <<< k) = mk)
    (hv : EF P W n L E ⟨d, op, t, pos, after, none⟩ (fun v L' => Sb M L' ∧ XM P W n ops Q M pm tm fuel mi L' (pt E d v)))
    (hv2 : EF P W n L E ⟨d2, op2, t2, pos2, after2, none⟩ (fun v L' => Sb M L' ∧ XM P W n ops Q M pm tm fuel mk L' (pt E d2 v))) : XM P W n ops Q M pm tm (fuel + 1) m L E := .mk fun h1 h2 h3 listed hrp a w ha hw => by
  have hmem : ∀ j, j ∈ Region.ready .any ops listed ↔ j = i ∨ j = k := fun j => by
    rw [ready_readyM hrp, h1, hr]; simp
  refine ⟨fun h => ?_, fun j hj => ?_⟩
  · have := (hmem i).2 (.inl rfl)
    rw [h] at this; cases this
  · rcases (hmem j).1 hj with rfl | rfl
    · exact xm_step h1 h2 h3 hi hd hmi hrp hv ha hw
    · exact xm_step h1 h2 h3 hk hd2 hmk hrp hv2 ha hw
theorem xm_gone (i : Nat) {d : Option Nat} {op : Op} {t : TypeId} {pos : String} {after : Array Edge} {g gt : Nat} {b : Bool} (hi : ops[i]? = some ⟨d, op, t, pos, after, some (g, b)⟩)
    (hr : readyM pm.zipIdx m = [i]) (hd : okd n d = true) (hg : (ops[g]?).bind (·.dst) = some gt) (ht : lk E gt = some (.bool b)) (hm : m ||| (1 <<< i) = m')
    (hv : EF P W n L E ⟨d, op, t, pos, after, some (g, b)⟩ (fun v L' => Sb M L' ∧ XM P W n ops Q M pm tm fuel m' L' (pt E d v))) : XM P W n ops Q M pm tm (fuel + 1) m L E := .mk fun h1 h2 h3 listed hrp a w ha hw => by
  refine ⟨fun h => absurd h (ready_ne h1 hrp hr), fun j hj => ?_⟩
  obtain rfl := ready_one h1 hrp hr hj
  unfold wpOp
  simp only [hi, Region.wanted, yielded_of (ops := ops) ha hg ht, beq_self_eq_true, if_true]
  refine .inl ?_
  unfold Oper.wp
  exact effUp.upon (hv.run a w ha hw) fun v w' ⟨L', h5, h6, h7⟩ => ⟨h6.hp h5, h7.run h1 h2 h3 _ (hm ▸ hrp.set (Array.getElem?_eq_some_iff.1 hi).1) _ _ (ha.pt d v hd) h5⟩
theorem xm_done (hr : readyM pm.zipIdx m = []) (h : XQ W n Q .normal L E) : XM P W n ops Q M pm tm fuel m L E := .mk fun h1 h2 h3 listed hrp a w ha hw =>
  wpAnyH_done (Q := NoPanic Q) (by
    cases h9 : Region.ready .any ops listed with
    | nil => rfl
    | cons j r =>
      have : j ∈ Region.ready .any ops listed := by rw [h9]; simp
      rw [ready_readyM hrp, h1, hr] at this
      cases this) (h.run a w ha hw) fuel
theorem xm_keep {E' : List (Nat × Value)} (h : XM P W n ops Q M pm tm fuel m L E') (hk : ∀ i v, lk E' i = some v → lk E i = some v) : XM P W n ops Q M pm tm fuel m L E := .mk fun h1 h2 h3 listed hrp a w ha hw => h.run h1 h2 h3 listed hrp a w (ha.keep hk) hw
theorem xm_split (t : Nat) {b : Bool} (ht : lk E t = some (.bool b)) (h1 : b = true → XM P W n ops Q M pm tm fuel m L ((t, .bool true) :: E)) (h2 : b = false → XM P W n ops Q M pm tm fuel m L ((t, .bool false) :: E)) : XM P W n ops Q M pm tm fuel m L E := by
  have hk : ∀ c, b = c → ∀ i v, lk ((t, .bool c) :: E) i = some v → lk E i = some v := fun c hc => keep_cons (by rw [ht, hc]) (fun _ _ h => h)
  cases hb : b
  · exact xm_keep (h2 hb) (hk _ hb)
  · exact xm_keep (h1 hb) (hk _ hb)
theorem xm_dec (t : Nat) {p : Prop} [hd : Decidable p] (ht : lk E t = some (.bool (decide p))) (h1 : p → XM P W n ops Q M pm tm fuel m L ((t, .bool true) :: E)) (h2 : ¬p → XM P W n ops Q M pm tm fuel m L ((t, .bool false) :: E)) : XM P W n ops Q M pm tm fuel m L E :=
  xm_split t ht (fun h => h1 (of_decide_eq_true h)) (fun h => h2 (of_decide_eq_false h))
theorem xm_ndec (t : Nat) {p : Prop} [hd : Decidable p] (ht : lk E t = some (.bool (!decide p))) (h1 : ¬p → XM P W n ops Q M pm tm fuel m L ((t, .bool true) :: E)) (h2 : p → XM P W n ops Q M pm tm fuel m L ((t, .bool false) :: E)) : XM P W n ops Q M pm tm fuel m L E :=
  xm_split t ht (fun h => h1 (by simpa using h)) (fun h => h2 (by simpa using h))
theorem xm_perm {L' : List Blk} (hp : L.Perm L') (h : XM P W n ops Q M pm tm fuel m L' E) : XM P W n ops Q M pm tm fuel m L E := .mk fun h1 h2 h3 listed hrp a w ha hw => h.run h1 h2 h3 listed hrp a w ha (hw.perm hp)
theorem xmx_perm {L' : List Blk} (hp : L.Perm L') (h : Sb M L' ∧ XM P W n ops Q M pm tm fuel m L' E) : Sb M L ∧ XM P W n ops Q M pm tm fuel m L E := ⟨h.1.perm hp, xm_perm hp h.2⟩
theorem xmx_mid (A : List Blk) {p : Blk} {R : List Blk} (h : Sb M (A ++ p :: R) ∧ XM P W n ops Q M pm tm fuel m (A ++ p :: R) E) : Sb M (p :: (A ++ R)) ∧ XM P W n ops Q M pm tm fuel m (p :: (A ++ R)) E := xmx_perm List.perm_middle.symm h
theorem xmx_seg (A S R : List Blk) (h : Sb M (A ++ (S ++ R)) ∧ XM P W n ops Q M pm tm fuel m (A ++ (S ++ R)) E) : Sb M (S ++ (A ++ R)) ∧ XM P W n ops Q M pm tm fuel m (S ++ (A ++ R)) E := xmx_perm (seg_perm A S R).symm h
end
end Go.Proofs.Ytoolgphkfnkajaa.X
/-
  Words of my own for walks, thirteenth part: rows of whole numbers, slices with three bounds, elements of owned slices, calls that leave all as it was. No condition; generic over the program.
-/
namespace Go.Proofs.Ytoolgphkfnkajaa.X
open Go Go.RowKit
set_option linter.unusedVariables false
set_option linter.unusedSimpArgs false

def ints (k : IntKind) (l : List Int) : List Value := l.map (Value.int k)
theorem ints_flat (k : IntKind) : ∀ l : List Int, l.flatMap (fun n => [Value.int k n]) = ints k l
  | [] => rfl
  | x :: r => by rw [List.flatMap_cons, ints_flat k r]; rfl
theorem ints_len (k : IntKind) (l : List Int) : (ints k l).length = l.length := by simp [ints]
theorem ints_one (k : IntKind) (l : List Int) : (ints k l).all (·.oneCell') = true := by simp [ints, List.all_map, Value.oneCell']
theorem ints_app (k : IntKind) (l r : List Int) : ints k (l ++ r) = ints k l ++ ints k r := by simp [ints]
theorem ints_take (k : IntKind) (l : List Int) (n : Nat) : ints k (l.take n) = (ints k l).take n := by simp [ints]
theorem ints_drop (k : IntKind) (l : List Int) (n : Nat) : ints k (l.drop n) = (ints k l).drop n := by simp [ints]
theorem ints_get (k : IntKind) (l : List Int) (i : Nat) (h : i < l.length) : (ints k l)[i]? = some (.int k l[i]) := by simp [ints, h]
theorem Rs.int {W : World} {L : List Blk} {p : Option Addr} {k : IntKind} {l : List Int} (hr : Rs W L p (ints k l)) {i : Nat} (hi : i < l.length) :
    ∃ b o, p = some ⟨b, o, none⟩ ∧ Cl W L b (o + i * 1) (.int k l[i]) := by
  obtain ⟨b, o, hp, hc⟩ := hr _ _ (ints_get k l i hi)
  exact ⟨b, o, hp, by rw [Nat.mul_one]; exact hc⟩
theorem Rs.none_nil {W : World} {L : List Blk} {xs : List Value} (h : Rs W L none xs) : xs = [] := by
  cases xs with
  | nil => rfl
  | cons x r => obtain ⟨b, o, hp, _⟩ := h 0 x rfl; cases hp
theorem Rs.skip {W : World} {L : List Blk} {p : Option Addr} {xs : List Value} {q : Blk} (h : Rs W L p xs) : Rs W (q :: L) p xs := h.mono fun _ hq => List.mem_cons_of_mem _ hq
theorem Rs.app {W : World} {L A : List Blk} {p : Option Addr} {xs : List Value} (h : Rs W L p xs) : Rs W (A ++ L) p xs := h.mono fun _ hq => List.mem_append_right _ hq
theorem Rs.appl {W : World} {L A : List Blk} {p : Option Addr} {xs : List Value} (h : Rs W L p xs) : Rs W (L ++ A) p xs := h.mono fun _ hq => List.mem_append_left _ hq
theorem Rs.nilL {W : World} {L : List Blk} {p : Option Addr} {xs : List Value} (h : Rs W [] p xs) : Rs W L p xs := h.mono fun _ hq => by cases hq
/-- The tail of a source. -/
theorem Rs.drop {W : World} {L : List Blk} {b o : Nat} {xs : List Value} (h : Rs W L (some ⟨b, o, none⟩) xs) (k : Nat) : Rs W L (some ⟨b, o + k, none⟩) (xs.drop k) := fun j u hj => by
  rw [List.getElem?_drop] at hj
  obtain ⟨b', o', hp, hc⟩ := h (k + j) u hj
  simp only [Option.some.injEq, Addr.mk.injEq] at hp
  obtain ⟨rfl, rfl, _⟩ := hp
  exact ⟨b, o + k, rfl, by rw [Nat.add_assoc]; exact hc⟩
theorem SlO.rsl {W : World} {s : Nat} {e : TypeId} {p : Option Addr} {m c : Nat} {xs : List Value} {l R : List Blk} (h : SlO s e (.slice p m c) m xs l) : Rs W (l ++ R) p xs := h.rs fun _ hq => List.mem_append_left _ hq
theorem SlO.cap {s : Nat} {e : TypeId} {p : Option Addr} {m k c : Nat} {xs : List Value} {l : List Blk} (h : SlO s e (.slice p k c) m xs l) : k = m ∧ m ≤ c := by
  rcases h with ⟨h, rfl, _⟩ | ⟨b, cs, cap, h, _, h1, _⟩
  · simp only [Value.slice.injEq] at h; omega
  · simp only [Value.slice.injEq] at h; omega
/-- Its value, opened. -/
theorem SlO.opn {s : Nat} {e : TypeId} {v : Value} {m : Nat} {xs : List Value} {l : List Blk} (h : SlO s e v m xs l) : ∃ p c, v = .slice p m c ∧ SlO s e (.slice p m c) m xs l ∧ m ≤ c := by
  obtain ⟨p, c, rfl⟩ := h.val
  exact ⟨p, c, rfl, h, h.cap.2⟩
section
variable {P : Program} {W : World} {n : Nat} {L : List Blk} {E : List (Nat × Value)} {d : Option Nat} {t : TypeId} {pos : String} {after : Array Edge} {g : Option (Nat × Bool)} {K : Value → List Blk → Prop}
theorem rd_slice3v {T e m b o len cap : Nat} {x lo hi mx : Operand} {k k' k'' : IntKind} {i j q : Int} [hT : Sl P T e] [hS : Ts P e m] (hx : ev E x = some (.slice (some ⟨b, o, none⟩) len cap)) (hl : ev E lo = some (.int k i)) (hh : ev E hi = some (.int k' j)) (hm : ev E mx = some (.int k'' q))
    (h0 : 0 ≤ i) (h1 : i ≤ j) (h2 : j ≤ q) (h3 : q ≤ cap) :
    RD P W n L E ⟨d, .slice T x (some lo) (some hi) (some mx), t, pos, after, g⟩ (.slice (if q.toNat = i.toNat then some ⟨b, o, none⟩ else some ⟨b, o + i.toNat * m, none⟩) (j.toNat - i.toNat) (q.toNat - i.toNat)) := .mk fun a w ha hw => by
  have hB := hS.h w
  have e1 : 0 ≤ j := by omega
  have e2 : 0 ≤ q := by omega
  have e3 : j ≤ (q.toNat : Int) := by omega
  have e4 : i ≤ (j.toNat : Int) := by omega
  have e5 : j ≤ max q 0 := by omega
  have e6 : i ≤ max j 0 := by omega
  simp [execOp, ha.eval hx, ha.eval hl, ha.eval hh, ha.eval hm, Instr.sliceAt, Instr.slice, Instr.sliceBounds, Instr.sliceBound, run_underlying hT.h, asIntOf, hB, h0, h1, h2, h3, e1, e2, e3, e4, e5, e6, add_zero']
/-- An element of an owned slice is written. -/
theorem ef_storeEl (A R : List Blk) {T m b i cap : Nat} {x y : Operand} {v : Value} {xs : List Value} {k : Nat} {e : TypeId} {l : List Blk} {p : Option Addr} [hS : Ts P T m] (hO : SlO m e (.slice p k cap) k xs l) (hx : ev E x = some (.pointer (some ⟨b, i * m, none⟩))) (hb : p = some ⟨b, 0, none⟩) (hik : i < k) (hy : ev E y = some v)
    (hv1 : v.cells.toList.all (·.oneCell') = true) (hvm : v.cells.size = m) (h0 : 0 < m)
    (hL : L = A ++ (l ++ R)) (hK : ∀ l', SlO m e (.slice p k cap) k (xs.take (i * m) ++ v.cells.toList ++ xs.drop ((i + 1) * m)) l' → K undef (A ++ (l' ++ R))) : EF P W n L E ⟨d, .store T x y, t, pos, after, g⟩ K := by
  have hlen := hO.len
  rcases hO with ⟨hn, hk, _⟩ | ⟨b', cs, cap', hv, rfl, h1, h2, h3⟩
  · omega
  · subst hb
    simp only [Value.slice.injEq, Option.some.injEq, Addr.mk.injEq, and_true, true_and] at hv
    obtain ⟨rfl, rfl⟩ := hv
    subst hL
    have hfit : i * m + m ≤ cs.size := by
      rw [h2]
      calc i * m + m = (i + 1) * m := by rw [Nat.add_mul]; omega
        _ ≤ cap * m := Nat.mul_le_mul_right _ (by omega)
    have hkm : i * m + m ≤ k * m := by
      calc i * m + m = (i + 1) * m := by rw [Nat.add_mul]; omega
        _ ≤ k * m := Nat.mul_le_mul_right _ (by omega)
    have hkc : k * m ≤ cs.size := by rw [h2]; exact Nat.mul_le_mul_right _ h1
    refine ⟨fun a w ha hw => ?_⟩
    have hB := hS.h w
    have hst := run_storeCells_at P b (i * m) e v.cells.toList 0 cs w hw.mid (by simp [hvm]; omega) (List.all_eq_true.1 hv1)
    simp only [Nat.add_zero] at hst
    have hrun : (execOp a.eval ⟨d, .store T x y, t, pos, after, g⟩).run P w = .ok .skip (w.setRow b (cs.toList.take (i * m) ++ v.cells.toList ++ cs.toList.drop (i * m + v.cells.toList.length)).toArray) := by
      simp only [execOp, ha.eval hx, ha.eval hy, Instr.storeAt, Instr.sureAddr, storeVar, Sem.run_bind, Sem.run_pure, Result.andThen_ok, hB]
      simp [hvm, hst]
    rw [hrun]
    refine ⟨_, hw.turnAt rfl rfl rfl (setRow_heap w b cs _ e (0, 0) hw.mid) (fun q hq => setRow_other w b q _ hq), hK [(b, _)] (.inr ⟨b, _, cap, rfl, rfl, h1, ?_, ?_⟩)⟩
    · simp only [List.size_toArray, List.length_append, List.length_take, List.length_drop, Array.length_toList, hvm]
      rw [← h2]; omega
    · have e1 : i * m + v.cells.toList.length = (i + 1) * m := by rw [Array.length_toList, hvm, Nat.add_mul]; omega
      rw [e1, ← h3]
      have e2 : (i + 1) * m ≤ k * m := by rw [Nat.add_mul]; omega
      apply List.ext_getElem?
      intro j
      simp only [List.getElem?_take, List.getElem?_append, List.length_append, List.length_take, Array.length_toList, hvm, List.getElem?_drop]
      have a1 : min (i * m) cs.size = i * m := by omega
      have a2 : min (i * m) (min (k * m) cs.size) = i * m := by omega
      simp only [a1, a2]
      by_cases c1 : j < k * m
      · by_cases c2 : j < i * m + m
        · by_cases c3 : j < i * m
          · simp [c1, c2, c3]
          · simp [c1, c2, c3]
        · have c4 : (i + 1) * m + (j - (i * m + m)) < k * m := by rw [Nat.add_mul]; omega
          simp [c1, c2, c4]
      · have c2 : ¬ j < i * m + m := by omega
        have c4 : ¬ (i + 1) * m + (j - (i * m + m)) < k * m := by rw [Nat.add_mul]; omega
        simp [c1, c2, c4]
/-- The same, where the slice's place is spelt. -/
theorem ef_storeElo (A R : List Blk) {T m b o i cap : Nat} {x y : Operand} {v : Value} {xs : List Value} {k : Nat} {e : TypeId} {l : List Blk} {p : Option Addr} [hS : Ts P T m] (hO : SlO m e (.slice p k cap) k xs l) (hx : ev E x = some (.pointer (some ⟨b, o + i * m, none⟩))) (hb : p = some ⟨b, o, none⟩) (hik : i < k) (hy : ev E y = some v)
    (hv1 : v.cells.toList.all (·.oneCell') = true) (hvm : v.cells.size = m) (h0 : 0 < m)
    (hL : L = A ++ (l ++ R)) (hK : ∀ l', SlO m e (.slice p k cap) k (xs.take (i * m) ++ v.cells.toList ++ xs.drop ((i + 1) * m)) l' → K undef (A ++ (l' ++ R))) : EF P W n L E ⟨d, .store T x y, t, pos, after, g⟩ K := by
  have ho : o = 0 := by
    rcases hO with ⟨hn, hk, _⟩ | ⟨b', cs, cap', hv, _⟩
    · omega
    · subst hb
      simp only [Value.slice.injEq, Option.some.injEq, Addr.mk.injEq] at hv
      exact hv.1.2.1
  subst ho
  rw [Nat.zero_add] at hx
  exact ef_storeEl A R hO hx hb hik hy hv1 hvm h0 hL hK
end
section
variable {P : Program} {W : World} {n : Nat} {L : List Blk} {E : List (Nat × Value)} {Q : Exit → Act → World → Prop}
/-- Two parts of code, with what is known between them. -/
theorem xc_join {x y : Code} {ι : Type} (I : ι → Prop) (Ls : ι → List Blk) (Es : ι → List (Nat × Value)) (h1 : XC P W n x (Exit.then (fun a w => ∃ j, I j ∧ Env n a (Es j) ∧ Hp W w (Ls j)) Q) L E) (h2 : ∀ j, I j → XC P W n y Q (Ls j) (Es j)) : XC P W n (.seq x y) Q L E := .mk fun a w ha hw => by
  refine wp_seq (Code.wp_mono ?_ (h1.run a w ha hw))
  intro e a' w' q
  cases e with
  | normal => obtain ⟨j, q1, q2, q3⟩ := q; exact (h2 j q1).run _ _ q2 q3
  | _ => exact q
theorem xq_joined {ι : Type} {I : ι → Prop} {Ls : ι → List Blk} {Es : ι → List (Nat × Value)} (j : ι) (hj : I j) (hL : L = Ls j) (hE : ∀ k v, lk (Es j) k = some v → lk E k = some v) : XQ W n (Exit.then (fun a w => ∃ j, I j ∧ Env n a (Es j) ∧ Hp W w (Ls j)) Q) .normal L E := .mk fun a w ha hw => ⟨j, hj, ha.keep hE, hL ▸ hw⟩
end
/-- What stands for every world in which all is old stands with blocks of one's own, which stay. -/
theorem xf_over {P : Program} {W : World} {L : List Blk} {f : FuncId} {args : Array Value} {v0 : Value} (h : ∀ w, Hp W w L → XF P w f args [] (fun v L' => v = v0)) : XF P W f args L (fun v L' => v = v0 ∧ L' = L) := .mk fun w hw =>
  Calls.mono ((h w hw).run w (Hp.start w)) fun e w' ⟨v, h1, L', h2, h3⟩ => ⟨v, h1, L, hw.over h2, h3, rfl⟩
theorem Rs.over {W w : World} {L : List Blk} {p : Option Addr} {xs : List Value} (hw : Hp W w L) (h : Rs W L p xs) : Rs w [] p xs := fun j u hj => by
  obtain ⟨b, o, h1, h2⟩ := h j u hj
  exact ⟨b, o, h1, h2.over hw⟩

/-- The place of a number in a row; -1: it is not there. -/
def ixOf (ns : List Int) (x : Int) : Int := match ns.findIdx? (· == x) with
  | some i => i
  | none => -1
theorem ixOf_none {ns : List Int} {x : Int} (h : ∀ i, (hi : i < ns.length) → ns[i] ≠ x) : ixOf ns x = -1 := by
  unfold ixOf
  have : ns.findIdx? (· == x) = none := by
    rw [List.findIdx?_eq_none_iff]
    intro y hy
    obtain ⟨i, hi, rfl⟩ := List.getElem_of_mem hy
    simpa using h i hi
  rw [this]
theorem ixOf_some {ns : List Int} {x : Int} {k : Nat} (hk : k < ns.length) (h1 : ns[k] = x) (h : ∀ i, (hi : i < k) → ns[i]'(by omega) ≠ x) : ixOf ns x = k := by
  unfold ixOf
  have : ns.findIdx? (· == x) = some k := by
    rw [List.findIdx?_eq_some_iff_getElem]
    exact ⟨hk, by simp [h1], fun j hj => by simpa using h j hj⟩
  rw [this]
end Go.Proofs.Ytoolgphkfnkajaa.X
