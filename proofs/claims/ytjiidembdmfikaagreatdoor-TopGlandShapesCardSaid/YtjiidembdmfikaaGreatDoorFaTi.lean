import Derived.Test.YtjiidembdmfikaaGreatDoorFaTab
import Derived.Attr
set_option linter.all false
set_option maxHeartbeats 8000000
set_option maxRecDepth 100000
namespace Go.Den.FaT
open Go Go.Proofs Go.Den
@[go_sem]theorem ti3:T.ti 3=some ⟨.int .i64,1,8,.int .i64 0,true⟩:=by kernel_rfl
@[go_sem]theorem ti4:T.ti 4=some ⟨.bool,1,1,.bool false,true⟩:=by kernel_rfl
@[go_sem]theorem ti5:T.ti 5=some ⟨.int .u8,1,1,.int .u8 0,true⟩:=by kernel_rfl
@[go_sem]theorem ti9:T.ti 9=some ⟨.string,1,16,.str [],true⟩:=by kernel_rfl
@[go_sem]theorem ti22:T.ti 22=some ⟨.slice 76,1,24,.sl false 0 [],true⟩:=by kernel_rfl
@[go_sem]theorem ti23:T.ti 23=some ⟨.slice 76,1,24,.sl false 0 [],true⟩:=by kernel_rfl
@[go_sem]theorem ti24:T.ti 24=some ⟨.int .u16,1,2,.int .u16 0,true⟩:=by kernel_rfl
@[go_sem]theorem ti25:T.ti 25=some ⟨.array 3 24,3,6,.agg [.int .u16 0,.int .u16 0,.int .u16 0],true⟩:=by kernel_rfl
@[go_sem]theorem ti26:T.ti 26=some ⟨.slice 24,1,24,.sl false 0 [],true⟩:=by kernel_rfl
@[go_sem]theorem ti28:T.ti 28=some ⟨.struct [(0,23),(1,3),(2,5),(3,25),(6,5),(7,5),(8,26)],9,72,.agg [.sl false 0 [],.int .i64 0,.int .u8 0,.int .u16 0,.int .u16 0,.int .u16 0,.int .u8 0,.int .u8 0,.sl false 0 []],true⟩:=by kernel_rfl
@[go_sem]theorem ti31:T.ti 31=some ⟨.slice 35,1,24,.sl false 0 [],true⟩:=by kernel_rfl
@[go_sem]theorem ti32:T.ti 32=some ⟨.slice 54,1,24,.sl false 0 [],true⟩:=by kernel_rfl
@[go_sem]theorem ti34:T.ti 34=some ⟨.struct [(0,31),(1,3),(2,32)],3,56,.agg [.sl false 0 [],.int .i64 0,.sl false 0 []],true⟩:=by kernel_rfl
@[go_sem]theorem ti35:T.ti 35=some ⟨.slice 3,1,24,.sl false 0 [],true⟩:=by kernel_rfl
@[go_sem]theorem ti36:T.ti 36=some ⟨.array 3 35,3,72,.agg [.sl false 0 [],.sl false 0 [],.sl false 0 []],true⟩:=by kernel_rfl
@[go_sem]theorem ti39:T.ti 39=some ⟨.int .i64,1,8,.int .i64 0,true⟩:=by kernel_rfl
@[go_sem]theorem ti42:T.ti 42=some ⟨.slice 141,1,24,.sl false 0 [],true⟩:=by kernel_rfl
@[go_sem]theorem ti44:T.ti 44=some ⟨.struct [(0,31),(1,3),(2,42)],3,56,.agg [.sl false 0 [],.int .i64 0,.sl false 0 []],true⟩:=by kernel_rfl
@[go_sem]theorem ti52:T.ti 52=some ⟨.slice 56,1,24,.sl false 0 [],true⟩:=by kernel_rfl
@[go_sem]theorem ti54:T.ti 54=some ⟨.struct [(0,9),(1,3),(2,52)],3,48,.agg [.str [],.int .i64 0,.sl false 0 []],true⟩:=by kernel_rfl
@[go_sem]theorem ti56:T.ti 56=some ⟨.struct [(0,3),(1,3)],2,16,.agg [.int .i64 0,.int .i64 0],true⟩:=by kernel_rfl
@[go_sem]theorem ti62:T.ti 62=some ⟨.slice 160,1,24,.sl false 0 [],true⟩:=by kernel_rfl
@[go_sem]theorem ti65:T.ti 65=some ⟨.slice 62,1,24,.sl false 0 [],true⟩:=by kernel_rfl
@[go_sem]theorem ti74:T.ti 74=some ⟨.func,1,8,.nilf,true⟩:=by kernel_rfl
@[go_sem]theorem ti76:T.ti 76=some ⟨.struct [(0,3),(1,3)],2,16,.agg [.int .i64 0,.int .i64 0],true⟩:=by kernel_rfl
@[go_sem]theorem ti138:T.ti 138=some ⟨.struct [(0,23),(1,3),(2,3)],3,40,.agg [.sl false 0 [],.int .i64 0,.int .i64 0],true⟩:=by kernel_rfl
@[go_sem]theorem ti141:T.ti 141=some ⟨.struct [(0,9),(1,3),(2,52)],3,48,.agg [.str [],.int .i64 0,.sl false 0 []],true⟩:=by kernel_rfl
@[go_sem]theorem ti148:T.ti 148=some ⟨.slice 39,1,24,.sl false 0 [],true⟩:=by kernel_rfl
@[go_sem]theorem ti158:T.ti 158=some ⟨.slice 76,1,24,.sl false 0 [],true⟩:=by kernel_rfl
@[go_sem]theorem ti160:T.ti 160=some ⟨.struct [(0,158),(1,3),(2,3)],3,40,.agg [.sl false 0 [],.int .i64 0,.int .i64 0],true⟩:=by kernel_rfl
@[go_sem]theorem ti164:T.ti 164=some ⟨.slice 166,1,24,.sl false 0 [],true⟩:=by kernel_rfl
@[go_sem]theorem ti166:T.ti 166=some ⟨.struct [(0,9),(1,74)],2,24,.agg [.str [],.nilf],true⟩:=by kernel_rfl
@[go_sem]theorem ti167:T.ti 167=some ⟨.array 5 166,10,120,.agg [.str [],.nilf,.str [],.nilf,.str [],.nilf,.str [],.nilf,.str [],.nilf],true⟩:=by kernel_rfl
@[go_sem]theorem ti170:T.ti 170=some ⟨.func,1,8,.nilf,true⟩:=by kernel_rfl
@[go_sem]theorem ti173:T.ti 173=some ⟨.func,1,8,.nilf,true⟩:=by kernel_rfl
@[go_sem]theorem ti233:T.ti 233=some ⟨.slice 52,1,24,.sl false 0 [],true⟩:=by kernel_rfl
@[go_sem]theorem ti250:T.ti 250=some ⟨.array 2 3,2,16,.agg [.int .i64 0,.int .i64 0],true⟩:=by kernel_rfl
@[go_sem]theorem ti257:T.ti 257=some ⟨.map 9 4,1,8,.nilm,true⟩:=by kernel_rfl
@[go_sem]theorem ti261:T.ti 261=some ⟨.map 3 3,1,8,.nilm,true⟩:=by kernel_rfl
@[go_sem]theorem ti266:T.ti 266=some ⟨.int .u64,1,8,.int .u64 0,true⟩:=by kernel_rfl
end Go.Den.FaT
