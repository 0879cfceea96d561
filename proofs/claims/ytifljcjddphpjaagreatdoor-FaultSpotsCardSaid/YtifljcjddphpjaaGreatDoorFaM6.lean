import Derived.Test.YtifljcjddphpjaaGreatDoorFaM5
set_option linter.all false
set_option maxHeartbeats 8000000
set_option maxRecDepth 100000
namespace Go.Den.FaT
open Go Go.Proofs Go.Den
theorem mk18 : (lim T).call 191 [.agg [.str [115, 111, 105, 108], .int .i64 1, .sl true 2 [.agg [.int .i64 15, .int .i64 25], .agg [.int .i64 0, .int .i64 5], .agg [.int .i64 0, .int .i64 0]]]] [] 0 [] = some (.int .i64 0, [], 0, []) := memo_call mo18 100000 (by kernel_rfl)
noncomputable def mm19 : Memo := (191, [.agg [.str [115, 111, 105, 108], .int .i64 1, .sl true 2 [.agg [.int .i64 15, .int .i64 25], .agg [.int .i64 0, .int .i64 5], .agg [.int .i64 0, .int .i64 0]]]], .int .i64 0) :: mm18
theorem mo19 : MemoOk T mm19 := mo18.cons mk18
theorem mk19 : (lim T).call 191 [.agg [.str [112, 108, 117, 103], .int .i64 2, .sl true 2 [.agg [.int .i64 0, .int .i64 0], .agg [.int .i64 20, .int .i64 40], .agg [.int .i64 0, .int .i64 5]]]] [] 0 [] = some (.int .i64 0, [], 0, []) := memo_call mo19 100000 (by kernel_rfl)
noncomputable def mm20 : Memo := (191, [.agg [.str [112, 108, 117, 103], .int .i64 2, .sl true 2 [.agg [.int .i64 0, .int .i64 0], .agg [.int .i64 20, .int .i64 40], .agg [.int .i64 0, .int .i64 5]]]], .int .i64 0) :: mm19
theorem mo20 : MemoOk T mm20 := mo19.cons mk19
theorem mk20 : (lim T).call 191 [.agg [.str [100, 117, 115, 116], .int .i64 2, .sl true 2 [.agg [.int .i64 0, .int .i64 10], .agg [.int .i64 5, .int .i64 15], .agg [.int .i64 8, .int .i64 12]]]] [] 0 [] = some (.int .i64 0, [], 0, []) := memo_call mo20 100000 (by kernel_rfl)
noncomputable def mm21 : Memo := (191, [.agg [.str [100, 117, 115, 116], .int .i64 2, .sl true 2 [.agg [.int .i64 0, .int .i64 10], .agg [.int .i64 5, .int .i64 15], .agg [.int .i64 8, .int .i64 12]]]], .int .i64 0) :: mm20
theorem mo21 : MemoOk T mm21 := mo20.cons mk20
end Go.Den.FaT
