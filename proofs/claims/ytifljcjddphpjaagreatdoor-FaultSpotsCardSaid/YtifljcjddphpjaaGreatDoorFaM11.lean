import Derived.Test.YtifljcjddphpjaaGreatDoorFaM10
set_option linter.all false
set_option maxHeartbeats 8000000
set_option maxRecDepth 100000
namespace Go.Den.FaT
open Go Go.Proofs Go.Den
theorem mk33 : (lim T).call 46 [.agg [.sl true 1 [.sl true 1 [.int .i64 100, .int .i64 90], .sl true 1 [.int .i64 80, .int .i64 90], .sl true 1 [.int .i64 100, .int .i64 60]], .int .i64 2, .sl true 3 [.agg [.str [115, 111, 105, 108], .int .i64 1, .sl true 2 [.agg [.int .i64 15, .int .i64 25], .agg [.int .i64 0, .int .i64 5]]], .agg [.str [112, 108, 117, 103], .int .i64 2, .sl true 2 [.agg [.int .i64 0, .int .i64 0], .agg [.int .i64 20, .int .i64 40]]], .agg [.str [100, 117, 115, 116], .int .i64 2, .sl true 2 [.agg [.int .i64 0, .int .i64 10], .agg [.int .i64 5, .int .i64 15]]], .agg [.str [115, 110, 111, 119], .int .i64 2, .sl true 2 [.agg [.int .i64 0, .int .i64 0], .agg [.int .i64 15, .int .i64 20]]]]], .int .i64 2, .sl true 2 [.agg [.int .i64 1, .int .i64 0], .agg [.int .i64 1, .int .i64 0], .agg [.int .i64 1, .int .i64 0], .agg [.int .i64 1, .int .i64 0], .agg [.int .i64 1, .int .i64 0]]] [] 0 [] = some (.int .i64 19, [], 0, []) := memo_call mo33 100000 (by kernel_rfl)
noncomputable def mm34 : Memo := (46, [.agg [.sl true 1 [.sl true 1 [.int .i64 100, .int .i64 90], .sl true 1 [.int .i64 80, .int .i64 90], .sl true 1 [.int .i64 100, .int .i64 60]], .int .i64 2, .sl true 3 [.agg [.str [115, 111, 105, 108], .int .i64 1, .sl true 2 [.agg [.int .i64 15, .int .i64 25], .agg [.int .i64 0, .int .i64 5]]], .agg [.str [112, 108, 117, 103], .int .i64 2, .sl true 2 [.agg [.int .i64 0, .int .i64 0], .agg [.int .i64 20, .int .i64 40]]], .agg [.str [100, 117, 115, 116], .int .i64 2, .sl true 2 [.agg [.int .i64 0, .int .i64 10], .agg [.int .i64 5, .int .i64 15]]], .agg [.str [115, 110, 111, 119], .int .i64 2, .sl true 2 [.agg [.int .i64 0, .int .i64 0], .agg [.int .i64 15, .int .i64 20]]]]], .int .i64 2, .sl true 2 [.agg [.int .i64 1, .int .i64 0], .agg [.int .i64 1, .int .i64 0], .agg [.int .i64 1, .int .i64 0], .agg [.int .i64 1, .int .i64 0], .agg [.int .i64 1, .int .i64 0]]], .int .i64 19) :: mm33
theorem mo34 : MemoOk T mm34 := mo33.cons mk33
theorem mk34 : (lim T).call 16 [] [] 0 [] = some (.bool true, [], 0, []) := memo_call mo34 100000 (by kernel_rfl)
noncomputable def mm35 : Memo := (16, [], .bool true) :: mm34
theorem mo35 : MemoOk T mm35 := mo34.cons mk34
end Go.Den.FaT
