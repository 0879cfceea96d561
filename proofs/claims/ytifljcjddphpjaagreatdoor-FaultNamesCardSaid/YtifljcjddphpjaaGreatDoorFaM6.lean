import Derived.Test.YtifljcjddphpjaaGreatDoorFaM5
set_option linter.all false
set_option maxHeartbeats 8000000
set_option maxRecDepth 100000
namespace Go.Den.FaT
open Go Go.Proofs Go.Den
theorem yy1:(zy T).call 191 [.agg [.str [115,111,105,108],.int .i64 1,.sl true 2 [.agg [.int .i64 15,.int .i64 25],.agg [.int .i64 0,.int .i64 5],.agg [.int .i64 0,.int .i64 0]]]] [] 0 []=some (.int .i64 0,[],0,[]):=xp mo18 100000 (by kernel_rfl)
noncomputable def yl0:xb:=(191,[.agg [.str [115,111,105,108],.int .i64 1,.sl true 2 [.agg [.int .i64 15,.int .i64 25],.agg [.int .i64 0,.int .i64 5],.agg [.int .i64 0,.int .i64 0]]]],.int .i64 0)::yl1
theorem mo19:MemoOk T yl0:=mo18.cons yy1
theorem yy0:(zy T).call 191 [.agg [.str [112,108,117,103],.int .i64 2,.sl true 2 [.agg [.int .i64 0,.int .i64 0],.agg [.int .i64 20,.int .i64 40],.agg [.int .i64 0,.int .i64 5]]]] [] 0 []=some (.int .i64 0,[],0,[]):=xp mo19 100000 (by kernel_rfl)
noncomputable def ylz:xb:=(191,[.agg [.str [112,108,117,103],.int .i64 2,.sl true 2 [.agg [.int .i64 0,.int .i64 0],.agg [.int .i64 20,.int .i64 40],.agg [.int .i64 0,.int .i64 5]]]],.int .i64 0)::yl0
theorem mo20:MemoOk T ylz:=mo19.cons yy0
theorem yyz:(zy T).call 191 [.agg [.str [100,117,115,116],.int .i64 2,.sl true 2 [.agg [.int .i64 0,.int .i64 10],.agg [.int .i64 5,.int .i64 15],.agg [.int .i64 8,.int .i64 12]]]] [] 0 []=some (.int .i64 0,[],0,[]):=xp mo20 100000 (by kernel_rfl)
noncomputable def yly:xb:=(191,[.agg [.str [100,117,115,116],.int .i64 2,.sl true 2 [.agg [.int .i64 0,.int .i64 10],.agg [.int .i64 5,.int .i64 15],.agg [.int .i64 8,.int .i64 12]]]],.int .i64 0)::ylz
theorem mo21:MemoOk T yly:=mo20.cons yyz
end Go.Den.FaT
