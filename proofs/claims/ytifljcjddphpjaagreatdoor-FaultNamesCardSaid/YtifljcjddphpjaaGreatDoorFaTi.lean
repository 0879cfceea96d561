import Derived.Test.YtifljcjddphpjaaGreatDoorFaTab
import Derived.Attr
set_option linter.all false
set_option maxHeartbeats 8000000
set_option maxRecDepth 100000
namespace Go.Den.FaT
open Go Go.Proofs Go.Den
@[go_sem]theorem ti3:T.ti 3=some ⟨.int .i64,1,8,.int .i64 0,true⟩:=by kernel_rfl
@[go_sem]theorem ti4:T.ti 4=some ⟨.bool,1,1,.bool false,true⟩:=by kernel_rfl
@[go_sem]theorem ti5:T.ti 5=some ⟨.int .u8,1,1,.int .u8 0,true⟩:=by kernel_rfl
@[go_sem]theorem ti9:T.ti 9=some ⟨.string,1,16,.str [],true⟩:=by kernel_rfl
@[go_sem]theorem ti21:T.ti 21=some ⟨.int .i32,1,4,.int .i32 0,true⟩:=by kernel_rfl
@[go_sem]theorem ti22:T.ti 22=some ⟨.slice 28,1,24,.sl false 0 [],true⟩:=by kernel_rfl
@[go_sem]theorem ti23:T.ti 23=some ⟨.slice 140,1,24,.sl false 0 [],true⟩:=by kernel_rfl
@[go_sem]theorem ti25:T.ti 25=some ⟨.struct [(0,22),(1,3),(2,23)],3,56,.agg [.sl false 0 [],.int .i64 0,.sl false 0 []],true⟩:=by kernel_rfl
@[go_sem]theorem ti28:T.ti 28=some ⟨.slice 3,1,24,.sl false 0 [],true⟩:=by kernel_rfl
@[go_sem]theorem ti29:T.ti 29=some ⟨.int .i64,1,8,.int .i64 0,true⟩:=by kernel_rfl
@[go_sem]theorem ti32:T.ti 32=some ⟨.slice 180,1,24,.sl false 0 [],true⟩:=by kernel_rfl
@[go_sem]theorem ti34:T.ti 34=some ⟨.struct [(0,22),(1,3),(2,32)],3,56,.agg [.sl false 0 [],.int .i64 0,.sl false 0 []],true⟩:=by kernel_rfl
@[go_sem]theorem ti44:T.ti 44=some ⟨.slice 72,1,24,.sl false 0 [],true⟩:=by kernel_rfl
@[go_sem]theorem ti48:T.ti 48=some ⟨.slice 100,1,24,.sl false 0 [],true⟩:=by kernel_rfl
@[go_sem]theorem ti60:T.ti 60=some ⟨.slice 9,1,24,.sl false 0 [],true⟩:=by kernel_rfl
@[go_sem]theorem ti72:T.ti 72=some ⟨.slice 142,1,24,.sl false 0 [],true⟩:=by kernel_rfl
@[go_sem]theorem ti100:T.ti 100=some ⟨.struct [(0,3),(1,3)],2,16,.agg [.int .i64 0,.int .i64 0],true⟩:=by kernel_rfl
@[go_sem]theorem ti140:T.ti 140=some ⟨.struct [(0,9),(1,3),(2,72)],3,48,.agg [.str [],.int .i64 0,.sl false 0 []],true⟩:=by kernel_rfl
@[go_sem]theorem ti142:T.ti 142=some ⟨.struct [(0,3),(1,3)],2,16,.agg [.int .i64 0,.int .i64 0],true⟩:=by kernel_rfl
@[go_sem]theorem ti166:T.ti 166=some ⟨.array 3 5,3,3,.agg [.int .u8 0,.int .u8 0,.int .u8 0],true⟩:=by kernel_rfl
@[go_sem]theorem ti180:T.ti 180=some ⟨.struct [(0,9),(1,3),(2,72)],3,48,.agg [.str [],.int .i64 0,.sl false 0 []],true⟩:=by kernel_rfl
@[go_sem]theorem ti187:T.ti 187=some ⟨.slice 29,1,24,.sl false 0 [],true⟩:=by kernel_rfl
@[go_sem]theorem ti199:T.ti 199=some ⟨.func,1,8,.nilf,true⟩:=by kernel_rfl
@[go_sem]theorem ti209:T.ti 209=some ⟨.func,1,8,.nilf,true⟩:=by kernel_rfl
@[go_sem]theorem ti260:T.ti 260=some ⟨.func,1,8,.nilf,true⟩:=by kernel_rfl
@[go_sem]theorem ti267:T.ti 267=some ⟨.struct [(0,60),(1,4)],2,32,.agg [.sl false 0 [],.bool false],true⟩:=by kernel_rfl
@[go_sem]theorem ti276:T.ti 276=some ⟨.map 9 4,1,8,.nilm,true⟩:=by kernel_rfl
@[go_sem]theorem ti308:T.ti 308=some ⟨.int .u64,1,8,.int .u64 0,true⟩:=by kernel_rfl
end Go.Den.FaT
