import Derived.Test.YteeikdgoeehhkaaGreatDoorFaTab
import Derived.Attr
set_option linter.all false
set_option maxHeartbeats 8000000
set_option maxRecDepth 100000
namespace Go.Den.FaT
open Go Go.Proofs Go.Den
@[go_sem]theorem ti3:T.ti 3=some ⟨.int .i64,1,8,.int .i64 0,true⟩:=by kernel_rfl
@[go_sem]theorem ti4:T.ti 4=some ⟨.bool,1,1,.bool false,true⟩:=by kernel_rfl
@[go_sem]theorem ti5:T.ti 5=some ⟨.int .u8,1,1,.int .u8 0,true⟩:=by kernel_rfl
@[go_sem]theorem ti9:T.ti 9=some ⟨.string,1,16,.str [],true⟩:=by kernel_rfl
@[go_sem]theorem ti25:T.ti 25=some ⟨.int .i8,1,1,.int .i8 0,true⟩:=by kernel_rfl
@[go_sem]theorem ti26:T.ti 26=some ⟨.array 2 25,2,2,.agg [.int .i8 0,.int .i8 0],true⟩:=by kernel_rfl
@[go_sem]theorem ti31:T.ti 31=some ⟨.struct [(0,3),(1,3)],2,16,.agg [.int .i64 0,.int .i64 0],true⟩:=by kernel_rfl
@[go_sem]theorem ti34:T.ti 34=some ⟨.slice 31,1,24,.sl false 0 [],true⟩:=by kernel_rfl
@[go_sem]theorem ti37:T.ti 37=some ⟨.slice 50,1,24,.sl false 0 [],true⟩:=by kernel_rfl
@[go_sem]theorem ti39:T.ti 39=some ⟨.slice 3,1,24,.sl false 0 [],true⟩:=by kernel_rfl
@[go_sem]theorem ti41:T.ti 41=some ⟨.int .i64,1,8,.int .i64 0,true⟩:=by kernel_rfl
@[go_sem]theorem ti50:T.ti 50=some ⟨.struct [(0,9),(1,31),(3,3),(4,3)],5,48,.agg [.str [],.int .i64 0,.int .i64 0,.int .i64 0,.int .i64 0],true⟩:=by kernel_rfl
@[go_sem]theorem ti58:T.ti 58=some ⟨.struct [(0,31),(2,3),(3,3)],4,32,.agg [.int .i64 0,.int .i64 0,.int .i64 0,.int .i64 0],true⟩:=by kernel_rfl
@[go_sem]theorem ti65:T.ti 65=some ⟨.slice 66,1,24,.sl false 0 [],true⟩:=by kernel_rfl
@[go_sem]theorem ti66:T.ti 66=some ⟨.int .u16,1,2,.int .u16 0,true⟩:=by kernel_rfl
@[go_sem]theorem ti67:T.ti 67=some ⟨.array 3 66,3,6,.agg [.int .u16 0,.int .u16 0,.int .u16 0],true⟩:=by kernel_rfl
@[go_sem]theorem ti68:T.ti 68=some ⟨.array 3 67,9,18,.agg [.int .u16 0,.int .u16 0,.int .u16 0,.int .u16 0,.int .u16 0,.int .u16 0,.int .u16 0,.int .u16 0,.int .u16 0],true⟩:=by kernel_rfl
@[go_sem]theorem ti69:T.ti 69=some ⟨.array 3 5,3,3,.agg [.int .u8 0,.int .u8 0,.int .u8 0],true⟩:=by kernel_rfl
@[go_sem]theorem ti70:T.ti 70=some ⟨.array 3 26,6,6,.agg [.int .i8 0,.int .i8 0,.int .i8 0,.int .i8 0,.int .i8 0,.int .i8 0],true⟩:=by kernel_rfl
@[go_sem]theorem ti72:T.ti 72=some ⟨.struct [(0,65),(1,68),(10,69),(13,5),(14,5),(15,70),(21,5)],22,56,.agg [.sl false 0 [],.int .u16 0,.int .u16 0,.int .u16 0,.int .u16 0,.int .u16 0,.int .u16 0,.int .u16 0,.int .u16 0,.int .u16 0,.int .u8 0,.int .u8 0,.int .u8 0,.int .u8 0,.int .u8 0,.int .i8 0,.int .i8 0,.int .i8 0,.int .i8 0,.int .i8 0,.int .i8 0,.int .u8 0],true⟩:=by kernel_rfl
@[go_sem]theorem ti73:T.ti 73=some ⟨.slice 39,1,24,.sl false 0 [],true⟩:=by kernel_rfl
@[go_sem]theorem ti74:T.ti 74=some ⟨.slice 103,1,24,.sl false 0 [],true⟩:=by kernel_rfl
@[go_sem]theorem ti76:T.ti 76=some ⟨.struct [(0,73),(1,3),(2,74)],3,56,.agg [.sl false 0 [],.int .i64 0,.sl false 0 []],true⟩:=by kernel_rfl
@[go_sem]theorem ti81:T.ti 81=some ⟨.slice 9,1,24,.sl false 0 [],true⟩:=by kernel_rfl
@[go_sem]theorem ti90:T.ti 90=some ⟨.slice 94,1,24,.sl false 0 [],true⟩:=by kernel_rfl
@[go_sem]theorem ti94:T.ti 94=some ⟨.struct [(0,9),(1,3),(2,3)],3,32,.agg [.str [],.int .i64 0,.int .i64 0],true⟩:=by kernel_rfl
@[go_sem]theorem ti96:T.ti 96=some ⟨.struct [(0,9),(1,3)],2,24,.agg [.str [],.int .i64 0],true⟩:=by kernel_rfl
@[go_sem]theorem ti97:T.ti 97=some ⟨.slice 96,1,24,.sl false 0 [],true⟩:=by kernel_rfl
@[go_sem]theorem ti100:T.ti 100=some ⟨.struct [(0,3),(1,3)],2,16,.agg [.int .i64 0,.int .i64 0],true⟩:=by kernel_rfl
@[go_sem]theorem ti101:T.ti 101=some ⟨.slice 100,1,24,.sl false 0 [],true⟩:=by kernel_rfl
@[go_sem]theorem ti103:T.ti 103=some ⟨.struct [(0,9),(1,3),(2,101)],3,48,.agg [.str [],.int .i64 0,.sl false 0 []],true⟩:=by kernel_rfl
@[go_sem]theorem ti114:T.ti 114=some ⟨.slice 41,1,24,.sl false 0 [],true⟩:=by kernel_rfl
@[go_sem]theorem ti133:T.ti 133=some ⟨.func,1,8,.nilf,true⟩:=by kernel_rfl
@[go_sem]theorem ti136:T.ti 136=some ⟨.func,1,8,.nilf,true⟩:=by kernel_rfl
@[go_sem]theorem ti145:T.ti 145=some ⟨.slice 149,1,24,.sl false 0 [],true⟩:=by kernel_rfl
@[go_sem]theorem ti147:T.ti 147=some ⟨.struct [(0,39)],1,24,.agg [.sl false 0 []],true⟩:=by kernel_rfl
@[go_sem]theorem ti149:T.ti 149=some ⟨.struct [(0,147),(1,3)],2,32,.agg [.sl false 0 [],.int .i64 0],true⟩:=by kernel_rfl
@[go_sem]theorem ti164:T.ti 164=some ⟨.array 2 31,4,32,.agg [.int .i64 0,.int .i64 0,.int .i64 0,.int .i64 0],true⟩:=by kernel_rfl
@[go_sem]theorem ti183:T.ti 183=some ⟨.slice 101,1,24,.sl false 0 [],true⟩:=by kernel_rfl
@[go_sem]theorem ti188:T.ti 188=some ⟨.map 9 4,1,8,.nilm,true⟩:=by kernel_rfl
@[go_sem]theorem ti191:T.ti 191=some ⟨.func,1,8,.nilf,true⟩:=by kernel_rfl
@[go_sem]theorem ti199:T.ti 199=some ⟨.int .u64,1,8,.int .u64 0,true⟩:=by kernel_rfl
@[go_sem]theorem ti204:T.ti 204=some ⟨.struct [(0,9),(1,191)],2,24,.agg [.str [],.nilf],true⟩:=by kernel_rfl
@[go_sem]theorem ti205:T.ti 205=some ⟨.array 3 204,6,72,.agg [.str [],.nilf,.str [],.nilf,.str [],.nilf],true⟩:=by kernel_rfl
end Go.Den.FaT
