import Derived.Test.YtifljcjddphpjaaGreatDoorFaM8
set_option linter.all false
set_option maxHeartbeats 8000000
set_option maxRecDepth 100000
namespace Go.Den.FaT
open Go Go.Proofs Go.Den
theorem yyt:(zy T).call 63 [.agg [.int .i64 3,.int .i64 2,.sl true 1 [.flt .f32 1065353216,.flt .f32 1065353216,.flt .f32 1091567616,.flt .f32 1065353216,.flt .f32 1091567616,.flt .f32 1091567616]]] [] 0 []=some (.int .i64 0,[],0,[]):=xp mo27 100000 (by kernel_rfl)
noncomputable def ylr:xb:=(63,[.agg [.int .i64 3,.int .i64 2,.sl true 1 [.flt .f32 1065353216,.flt .f32 1065353216,.flt .f32 1091567616,.flt .f32 1065353216,.flt .f32 1091567616,.flt .f32 1091567616]]],.int .i64 0)::yls
theorem mo28:MemoOk T ylr:=mo27.cons yyt
theorem mk28:(zy T).call 151 [.agg [.int .i64 3,.int .i64 2,.sl true 1 [.flt .f32 1065353216,.flt .f32 1065353216,.flt .f32 1091567616,.flt .f32 1065353216,.flt .f32 1091567616,.flt .f32 1091567616]],.int .i64 100] [] 0 []=some (.sl true 2 [.agg [.int .i64 2,.int .i64 0],.agg [.int .i64 1,.int .i64 1],.agg [.int .i64 2,.int .i64 1]],[],0,[]):=xp mo28 100000 (by kernel_rfl)
noncomputable def ylq:xb:=(151,[.agg [.int .i64 3,.int .i64 2,.sl true 1 [.flt .f32 1065353216,.flt .f32 1065353216,.flt .f32 1091567616,.flt .f32 1065353216,.flt .f32 1091567616,.flt .f32 1091567616]],.int .i64 100],.sl true 2 [.agg [.int .i64 2,.int .i64 0],.agg [.int .i64 1,.int .i64 1],.agg [.int .i64 2,.int .i64 1]])::ylr
theorem mo29:MemoOk T ylq:=mo28.cons mk28
theorem yys:(zy T).call 58 [.agg [.int .i64 3,.int .i64 2,.sl true 1 [.flt .f32 1065353216,.flt .f32 1065353216,.flt .f32 1091567616,.flt .f32 1065353216,.flt .f32 1091567616,.flt .f32 1091567616]],.int .i64 100] [] 0 []=some (.tup [.sl true 3 [.agg [.int .i64 2,.int .i64 0,.int .i64 3]],.int .i64 0],[],0,[]):=xp mo29 100000 (by kernel_rfl)
noncomputable def ylp:xb:=(58,[.agg [.int .i64 3,.int .i64 2,.sl true 1 [.flt .f32 1065353216,.flt .f32 1065353216,.flt .f32 1091567616,.flt .f32 1065353216,.flt .f32 1091567616,.flt .f32 1091567616]],.int .i64 100],.tup [.sl true 3 [.agg [.int .i64 2,.int .i64 0,.int .i64 3]],.int .i64 0])::ylq
theorem mo30:MemoOk T ylp:=mo29.cons yys
end Go.Den.FaT
