import Derived.Test.YtifljcjddphpjaaGreatDoorFaM8
set_option linter.all false
set_option maxHeartbeats 8000000
set_option maxRecDepth 100000
namespace Go.Den.FaT
open Go Go.Proofs Go.Den
theorem mk27 : (lim T).call 63 [.agg [.int .i64 3, .int .i64 2, .sl true 1 [.flt .f32 1065353216, .flt .f32 1065353216, .flt .f32 1091567616, .flt .f32 1065353216, .flt .f32 1091567616, .flt .f32 1091567616]]] [] 0 [] = some (.int .i64 0, [], 0, []) := memo_call mo27 100000 (by kernel_rfl)
noncomputable def mm28 : Memo := (63, [.agg [.int .i64 3, .int .i64 2, .sl true 1 [.flt .f32 1065353216, .flt .f32 1065353216, .flt .f32 1091567616, .flt .f32 1065353216, .flt .f32 1091567616, .flt .f32 1091567616]]], .int .i64 0) :: mm27
theorem mo28 : MemoOk T mm28 := mo27.cons mk27
theorem mk28 : (lim T).call 151 [.agg [.int .i64 3, .int .i64 2, .sl true 1 [.flt .f32 1065353216, .flt .f32 1065353216, .flt .f32 1091567616, .flt .f32 1065353216, .flt .f32 1091567616, .flt .f32 1091567616]], .int .i64 100] [] 0 [] = some (.sl true 2 [.agg [.int .i64 2, .int .i64 0], .agg [.int .i64 1, .int .i64 1], .agg [.int .i64 2, .int .i64 1]], [], 0, []) := memo_call mo28 100000 (by kernel_rfl)
noncomputable def mm29 : Memo := (151, [.agg [.int .i64 3, .int .i64 2, .sl true 1 [.flt .f32 1065353216, .flt .f32 1065353216, .flt .f32 1091567616, .flt .f32 1065353216, .flt .f32 1091567616, .flt .f32 1091567616]], .int .i64 100], .sl true 2 [.agg [.int .i64 2, .int .i64 0], .agg [.int .i64 1, .int .i64 1], .agg [.int .i64 2, .int .i64 1]]) :: mm28
theorem mo29 : MemoOk T mm29 := mo28.cons mk28
theorem mk29 : (lim T).call 58 [.agg [.int .i64 3, .int .i64 2, .sl true 1 [.flt .f32 1065353216, .flt .f32 1065353216, .flt .f32 1091567616, .flt .f32 1065353216, .flt .f32 1091567616, .flt .f32 1091567616]], .int .i64 100] [] 0 [] = some (.tup [.sl true 3 [.agg [.int .i64 2, .int .i64 0, .int .i64 3]], .int .i64 0], [], 0, []) := memo_call mo29 100000 (by kernel_rfl)
noncomputable def mm30 : Memo := (58, [.agg [.int .i64 3, .int .i64 2, .sl true 1 [.flt .f32 1065353216, .flt .f32 1065353216, .flt .f32 1091567616, .flt .f32 1065353216, .flt .f32 1091567616, .flt .f32 1091567616]], .int .i64 100], .tup [.sl true 3 [.agg [.int .i64 2, .int .i64 0, .int .i64 3]], .int .i64 0]) :: mm29
theorem mo30 : MemoOk T mm30 := mo29.cons mk29
end Go.Den.FaT
