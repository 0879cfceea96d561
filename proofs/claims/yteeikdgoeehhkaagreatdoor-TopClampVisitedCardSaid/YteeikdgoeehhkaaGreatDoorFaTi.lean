import Derived.Test.YteeikdgoeehhkaaGreatDoorFaTab
import Derived.Attr
set_option linter.all false
set_option maxHeartbeats 8000000
set_option maxRecDepth 100000
namespace Go.Den.FaT
open Go Go.Proofs Go.Den
@[go_sem] theorem ti0 : T.ti 0 = some ⟨.tuple [], 1, 0, .undef, true⟩ := by kernel_rfl
@[go_sem] theorem ti1 : T.ti 1 = some ⟨.func, 1, 8, .nilf, true⟩ := by kernel_rfl
@[go_sem] theorem ti2 : T.ti 2 = some ⟨.int .i64, 1, 8, .int .i64 0, true⟩ := by kernel_rfl
@[go_sem] theorem ti3 : T.ti 3 = some ⟨.int .i64, 1, 8, .int .i64 0, true⟩ := by kernel_rfl
@[go_sem] theorem ti4 : T.ti 4 = some ⟨.bool, 1, 1, .bool false, true⟩ := by kernel_rfl
@[go_sem] theorem ti5 : T.ti 5 = some ⟨.int .u8, 1, 1, .int .u8 0, true⟩ := by kernel_rfl
@[go_sem] theorem ti6 : T.ti 6 = some ⟨.int .u8, 1, 1, .int .u8 0, true⟩ := by kernel_rfl
@[go_sem] theorem ti9 : T.ti 9 = some ⟨.string, 1, 16, .str [], true⟩ := by kernel_rfl
@[go_sem] theorem ti21 : T.ti 21 = some ⟨.int .i32, 1, 4, .int .i32 0, true⟩ := by kernel_rfl
@[go_sem] theorem ti22 : T.ti 22 = some ⟨.slice 40, 1, 24, .sl false 0 [], true⟩ := by kernel_rfl
@[go_sem] theorem ti23 : T.ti 23 = some ⟨.int .i16, 1, 2, .int .i16 0, true⟩ := by kernel_rfl
@[go_sem] theorem ti24 : T.ti 24 = some ⟨.array 2 23, 2, 4, .agg [.int .i16 0, .int .i16 0], true⟩ := by kernel_rfl
@[go_sem] theorem ti25 : T.ti 25 = some ⟨.int .i8, 1, 1, .int .i8 0, true⟩ := by kernel_rfl
@[go_sem] theorem ti26 : T.ti 26 = some ⟨.array 2 25, 2, 2, .agg [.int .i8 0, .int .i8 0], true⟩ := by kernel_rfl
@[go_sem] theorem ti28 : T.ti 28 = some ⟨.struct [(0, 22), (1, 5), (2, 24), (4, 5), (5, 26)], 7, 40, .agg [.sl false 0 [], .int .u8 0, .int .i16 0, .int .i16 0, .int .u8 0, .int .i8 0, .int .i8 0], true⟩ := by kernel_rfl
@[go_sem] theorem ti31 : T.ti 31 = some ⟨.struct [(0, 3), (1, 3)], 2, 16, .agg [.int .i64 0, .int .i64 0], true⟩ := by kernel_rfl
@[go_sem] theorem ti33 : T.ti 33 = some ⟨.struct [(0, 3), (1, 31)], 3, 24, .agg [.int .i64 0, .int .i64 0, .int .i64 0], true⟩ := by kernel_rfl
@[go_sem] theorem ti34 : T.ti 34 = some ⟨.slice 31, 1, 24, .sl false 0 [], true⟩ := by kernel_rfl
@[go_sem] theorem ti35 : T.ti 35 = some ⟨.slice 47, 1, 24, .sl false 0 [], true⟩ := by kernel_rfl
@[go_sem] theorem ti36 : T.ti 36 = some ⟨.slice 52, 1, 24, .sl false 0 [], true⟩ := by kernel_rfl
@[go_sem] theorem ti37 : T.ti 37 = some ⟨.slice 50, 1, 24, .sl false 0 [], true⟩ := by kernel_rfl
@[go_sem] theorem ti38 : T.ti 38 = some ⟨.slice 45, 1, 24, .sl false 0 [], true⟩ := by kernel_rfl
@[go_sem] theorem ti39 : T.ti 39 = some ⟨.slice 3, 1, 24, .sl false 0 [], true⟩ := by kernel_rfl
@[go_sem] theorem ti40 : T.ti 40 = some ⟨.array 2 5, 2, 2, .agg [.int .u8 0, .int .u8 0], true⟩ := by kernel_rfl
@[go_sem] theorem ti41 : T.ti 41 = some ⟨.int .i64, 1, 8, .int .i64 0, true⟩ := by kernel_rfl
@[go_sem] theorem ti45 : T.ti 45 = some ⟨.array 8 5, 8, 8, .agg [.int .u8 0, .int .u8 0, .int .u8 0, .int .u8 0, .int .u8 0, .int .u8 0, .int .u8 0, .int .u8 0], true⟩ := by kernel_rfl
@[go_sem] theorem ti47 : T.ti 47 = some ⟨.struct [(0, 45), (8, 31)], 10, 24, .agg [.int .u8 0, .int .u8 0, .int .u8 0, .int .u8 0, .int .u8 0, .int .u8 0, .int .u8 0, .int .u8 0, .int .i64 0, .int .i64 0], true⟩ := by kernel_rfl
@[go_sem] theorem ti50 : T.ti 50 = some ⟨.struct [(0, 9), (1, 31), (3, 3), (4, 3)], 5, 48, .agg [.str [], .int .i64 0, .int .i64 0, .int .i64 0, .int .i64 0], true⟩ := by kernel_rfl
@[go_sem] theorem ti52 : T.ti 52 = some ⟨.struct [(0, 31), (2, 3)], 3, 24, .agg [.int .i64 0, .int .i64 0, .int .i64 0], true⟩ := by kernel_rfl
@[go_sem] theorem ti58 : T.ti 58 = some ⟨.struct [(0, 31), (2, 3), (3, 3)], 4, 32, .agg [.int .i64 0, .int .i64 0, .int .i64 0, .int .i64 0], true⟩ := by kernel_rfl
@[go_sem] theorem ti65 : T.ti 65 = some ⟨.slice 66, 1, 24, .sl false 0 [], true⟩ := by kernel_rfl
@[go_sem] theorem ti66 : T.ti 66 = some ⟨.int .u16, 1, 2, .int .u16 0, true⟩ := by kernel_rfl
@[go_sem] theorem ti67 : T.ti 67 = some ⟨.array 3 66, 3, 6, .agg [.int .u16 0, .int .u16 0, .int .u16 0], true⟩ := by kernel_rfl
@[go_sem] theorem ti68 : T.ti 68 = some ⟨.array 3 67, 9, 18, .agg [.int .u16 0, .int .u16 0, .int .u16 0, .int .u16 0, .int .u16 0, .int .u16 0, .int .u16 0, .int .u16 0, .int .u16 0], true⟩ := by kernel_rfl
@[go_sem] theorem ti69 : T.ti 69 = some ⟨.array 3 5, 3, 3, .agg [.int .u8 0, .int .u8 0, .int .u8 0], true⟩ := by kernel_rfl
@[go_sem] theorem ti70 : T.ti 70 = some ⟨.array 3 26, 6, 6, .agg [.int .i8 0, .int .i8 0, .int .i8 0, .int .i8 0, .int .i8 0, .int .i8 0], true⟩ := by kernel_rfl
@[go_sem] theorem ti72 : T.ti 72 = some ⟨.struct [(0, 65), (1, 68), (10, 69), (13, 5), (14, 5), (15, 70), (21, 5)], 22, 56, .agg [.sl false 0 [], .int .u16 0, .int .u16 0, .int .u16 0, .int .u16 0, .int .u16 0, .int .u16 0, .int .u16 0, .int .u16 0, .int .u16 0, .int .u8 0, .int .u8 0, .int .u8 0, .int .u8 0, .int .u8 0, .int .i8 0, .int .i8 0, .int .i8 0, .int .i8 0, .int .i8 0, .int .i8 0, .int .u8 0], true⟩ := by kernel_rfl
@[go_sem] theorem ti73 : T.ti 73 = some ⟨.slice 39, 1, 24, .sl false 0 [], true⟩ := by kernel_rfl
@[go_sem] theorem ti74 : T.ti 74 = some ⟨.slice 103, 1, 24, .sl false 0 [], true⟩ := by kernel_rfl
@[go_sem] theorem ti76 : T.ti 76 = some ⟨.struct [(0, 73), (1, 3), (2, 74)], 3, 56, .agg [.sl false 0 [], .int .i64 0, .sl false 0 []], true⟩ := by kernel_rfl
@[go_sem] theorem ti81 : T.ti 81 = some ⟨.slice 9, 1, 24, .sl false 0 [], true⟩ := by kernel_rfl
@[go_sem] theorem ti90 : T.ti 90 = some ⟨.slice 94, 1, 24, .sl false 0 [], true⟩ := by kernel_rfl
@[go_sem] theorem ti94 : T.ti 94 = some ⟨.struct [(0, 9), (1, 3), (2, 3)], 3, 32, .agg [.str [], .int .i64 0, .int .i64 0], true⟩ := by kernel_rfl
@[go_sem] theorem ti96 : T.ti 96 = some ⟨.struct [(0, 9), (1, 3)], 2, 24, .agg [.str [], .int .i64 0], true⟩ := by kernel_rfl
@[go_sem] theorem ti97 : T.ti 97 = some ⟨.slice 96, 1, 24, .sl false 0 [], true⟩ := by kernel_rfl
@[go_sem] theorem ti100 : T.ti 100 = some ⟨.struct [(0, 3), (1, 3)], 2, 16, .agg [.int .i64 0, .int .i64 0], true⟩ := by kernel_rfl
@[go_sem] theorem ti101 : T.ti 101 = some ⟨.slice 100, 1, 24, .sl false 0 [], true⟩ := by kernel_rfl
@[go_sem] theorem ti103 : T.ti 103 = some ⟨.struct [(0, 9), (1, 3), (2, 101)], 3, 48, .agg [.str [], .int .i64 0, .sl false 0 []], true⟩ := by kernel_rfl
@[go_sem] theorem ti106 : T.ti 106 = some ⟨.func, 1, 8, .nilf, true⟩ := by kernel_rfl
@[go_sem] theorem ti107 : T.ti 107 = some ⟨.func, 1, 8, .nilf, true⟩ := by kernel_rfl
@[go_sem] theorem ti109 : T.ti 109 = some ⟨.struct [(0, 9), (1, 107)], 2, 24, .agg [.str [], .nilf], true⟩ := by kernel_rfl
@[go_sem] theorem ti110 : T.ti 110 = some ⟨.array 4 109, 8, 96, .agg [.str [], .nilf, .str [], .nilf, .str [], .nilf, .str [], .nilf], true⟩ := by kernel_rfl
@[go_sem] theorem ti112 : T.ti 112 = some ⟨.slice 5, 1, 24, .sl false 0 [], true⟩ := by kernel_rfl
@[go_sem] theorem ti114 : T.ti 114 = some ⟨.slice 41, 1, 24, .sl false 0 [], true⟩ := by kernel_rfl
@[go_sem] theorem ti116 : T.ti 116 = some ⟨.func, 1, 8, .nilf, true⟩ := by kernel_rfl
@[go_sem] theorem ti118 : T.ti 118 = some ⟨.map 31 45, 1, 8, .nilm, true⟩ := by kernel_rfl
@[go_sem] theorem ti127 : T.ti 127 = some ⟨.func, 1, 8, .nilf, true⟩ := by kernel_rfl
@[go_sem] theorem ti131 : T.ti 131 = some ⟨.func, 1, 8, .nilf, true⟩ := by kernel_rfl
@[go_sem] theorem ti133 : T.ti 133 = some ⟨.func, 1, 8, .nilf, true⟩ := by kernel_rfl
@[go_sem] theorem ti136 : T.ti 136 = some ⟨.func, 1, 8, .nilf, true⟩ := by kernel_rfl
@[go_sem] theorem ti140 : T.ti 140 = some ⟨.func, 1, 8, .nilf, true⟩ := by kernel_rfl
@[go_sem] theorem ti145 : T.ti 145 = some ⟨.slice 149, 1, 24, .sl false 0 [], true⟩ := by kernel_rfl
@[go_sem] theorem ti147 : T.ti 147 = some ⟨.struct [(0, 39)], 1, 24, .agg [.sl false 0 []], true⟩ := by kernel_rfl
@[go_sem] theorem ti149 : T.ti 149 = some ⟨.struct [(0, 147), (1, 3)], 2, 32, .agg [.sl false 0 [], .int .i64 0], true⟩ := by kernel_rfl
@[go_sem] theorem ti151 : T.ti 151 = some ⟨.func, 1, 8, .nilf, true⟩ := by kernel_rfl
@[go_sem] theorem ti152 : T.ti 152 = some ⟨.func, 1, 8, .nilf, true⟩ := by kernel_rfl
@[go_sem] theorem ti154 : T.ti 154 = some ⟨.func, 1, 8, .nilf, true⟩ := by kernel_rfl
@[go_sem] theorem ti158 : T.ti 158 = some ⟨.func, 1, 8, .nilf, true⟩ := by kernel_rfl
@[go_sem] theorem ti159 : T.ti 159 = some ⟨.func, 1, 8, .nilf, true⟩ := by kernel_rfl
@[go_sem] theorem ti162 : T.ti 162 = some ⟨.func, 1, 8, .nilf, true⟩ := by kernel_rfl
@[go_sem] theorem ti164 : T.ti 164 = some ⟨.array 2 31, 4, 32, .agg [.int .i64 0, .int .i64 0, .int .i64 0, .int .i64 0], true⟩ := by kernel_rfl
@[go_sem] theorem ti168 : T.ti 168 = some ⟨.func, 1, 8, .nilf, true⟩ := by kernel_rfl
@[go_sem] theorem ti169 : T.ti 169 = some ⟨.func, 1, 8, .nilf, true⟩ := by kernel_rfl
@[go_sem] theorem ti176 : T.ti 176 = some ⟨.func, 1, 8, .nilf, true⟩ := by kernel_rfl
@[go_sem] theorem ti181 : T.ti 181 = some ⟨.func, 1, 8, .nilf, true⟩ := by kernel_rfl
@[go_sem] theorem ti183 : T.ti 183 = some ⟨.slice 101, 1, 24, .sl false 0 [], true⟩ := by kernel_rfl
@[go_sem] theorem ti188 : T.ti 188 = some ⟨.map 9 4, 1, 8, .nilm, true⟩ := by kernel_rfl
@[go_sem] theorem ti191 : T.ti 191 = some ⟨.func, 1, 8, .nilf, true⟩ := by kernel_rfl
@[go_sem] theorem ti199 : T.ti 199 = some ⟨.int .u64, 1, 8, .int .u64 0, true⟩ := by kernel_rfl
@[go_sem] theorem ti202 : T.ti 202 = some ⟨.func, 1, 8, .nilf, true⟩ := by kernel_rfl
@[go_sem] theorem ti204 : T.ti 204 = some ⟨.struct [(0, 9), (1, 191)], 2, 24, .agg [.str [], .nilf], true⟩ := by kernel_rfl
@[go_sem] theorem ti205 : T.ti 205 = some ⟨.array 3 204, 6, 72, .agg [.str [], .nilf, .str [], .nilf, .str [], .nilf], true⟩ := by kernel_rfl
@[go_sem] theorem ti207 : T.ti 207 = some ⟨.func, 1, 8, .nilf, true⟩ := by kernel_rfl
@[go_sem] theorem ti210 : T.ti 210 = some ⟨.int .i64, 1, 8, .int .i64 0, true⟩ := by kernel_rfl
@[go_sem] theorem ti218 : T.ti 218 = some ⟨.int .u32, 1, 4, .int .u32 0, true⟩ := by kernel_rfl
@[go_sem] theorem ti220 : T.ti 220 = some ⟨.int .u64, 1, 8, .int .u64 0, true⟩ := by kernel_rfl
@[go_sem] theorem ti222 : T.ti 222 = some ⟨.int .u64, 1, 8, .int .u64 0, true⟩ := by kernel_rfl
@[go_sem] theorem ti226 : T.ti 226 = some ⟨.ptr 3, 1, 8, .nilp, true⟩ := by kernel_rfl
@[go_sem] theorem glob0 : T.glob 0 = some [.str [110, 111, 110, 101], .fn 170 [], .str [111, 110, 101], .fn 171 [], .str [116, 119, 111], .fn 172 [], .str [116, 104, 114, 101, 101], .fn 173 []] := by kernel_rfl
end Go.Den.FaT
