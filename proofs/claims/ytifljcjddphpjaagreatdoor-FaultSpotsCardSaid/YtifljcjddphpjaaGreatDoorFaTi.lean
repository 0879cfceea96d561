import Derived.Test.YtifljcjddphpjaaGreatDoorFaTab
import Derived.Attr
set_option linter.all false
set_option maxHeartbeats 8000000
set_option maxRecDepth 100000
namespace Go.Den.FaT
open Go Go.Proofs Go.Den
@[go_sem] theorem ti0 : T.ti 0 = some ⟨.tuple [], 1, 0, .undef, true⟩ := by kernel_rfl
@[go_sem] theorem ti1 : T.ti 1 = some ⟨.func, 1, 8, .nilf, true⟩ := by kernel_rfl
@[go_sem] theorem ti2 : T.ti 2 = some ⟨.int .i64, 1, 8, .int .i64 0, true⟩ := by kernel_rfl
@[go_sem] theorem ti3 : T.ti 3 = some ⟨.int .i64, 1, 8, .int .i64 0, true⟩ := by kernel_rfl
@[go_sem] theorem ti4 : T.ti 4 = some ⟨.bool, 1, 1, .bool false, true⟩ := by kernel_rfl
@[go_sem] theorem ti5 : T.ti 5 = some ⟨.int .u8, 1, 1, .int .u8 0, true⟩ := by kernel_rfl
@[go_sem] theorem ti9 : T.ti 9 = some ⟨.string, 1, 16, .str [], true⟩ := by kernel_rfl
@[go_sem] theorem ti21 : T.ti 21 = some ⟨.int .i32, 1, 4, .int .i32 0, true⟩ := by kernel_rfl
@[go_sem] theorem ti22 : T.ti 22 = some ⟨.slice 28, 1, 24, .sl false 0 [], true⟩ := by kernel_rfl
@[go_sem] theorem ti23 : T.ti 23 = some ⟨.slice 140, 1, 24, .sl false 0 [], true⟩ := by kernel_rfl
@[go_sem] theorem ti25 : T.ti 25 = some ⟨.struct [(0, 22), (1, 3), (2, 23)], 3, 56, .agg [.sl false 0 [], .int .i64 0, .sl false 0 []], true⟩ := by kernel_rfl
@[go_sem] theorem ti28 : T.ti 28 = some ⟨.slice 3, 1, 24, .sl false 0 [], true⟩ := by kernel_rfl
@[go_sem] theorem ti29 : T.ti 29 = some ⟨.int .i64, 1, 8, .int .i64 0, true⟩ := by kernel_rfl
@[go_sem] theorem ti32 : T.ti 32 = some ⟨.slice 180, 1, 24, .sl false 0 [], true⟩ := by kernel_rfl
@[go_sem] theorem ti34 : T.ti 34 = some ⟨.struct [(0, 22), (1, 3), (2, 32)], 3, 56, .agg [.sl false 0 [], .int .i64 0, .sl false 0 []], true⟩ := by kernel_rfl
@[go_sem] theorem ti44 : T.ti 44 = some ⟨.slice 72, 1, 24, .sl false 0 [], true⟩ := by kernel_rfl
@[go_sem] theorem ti47 : T.ti 47 = some ⟨.func, 1, 8, .nilf, true⟩ := by kernel_rfl
@[go_sem] theorem ti48 : T.ti 48 = some ⟨.slice 100, 1, 24, .sl false 0 [], true⟩ := by kernel_rfl
@[go_sem] theorem ti60 : T.ti 60 = some ⟨.slice 9, 1, 24, .sl false 0 [], true⟩ := by kernel_rfl
@[go_sem] theorem ti72 : T.ti 72 = some ⟨.slice 142, 1, 24, .sl false 0 [], true⟩ := by kernel_rfl
@[go_sem] theorem ti80 : T.ti 80 = some ⟨.slice 150, 1, 24, .sl false 0 [], true⟩ := by kernel_rfl
@[go_sem] theorem ti82 : T.ti 82 = some ⟨.struct [(0, 3), (1, 3), (2, 80)], 3, 40, .agg [.int .i64 0, .int .i64 0, .sl false 0 []], true⟩ := by kernel_rfl
@[go_sem] theorem ti85 : T.ti 85 = some ⟨.struct [(0, 3), (1, 3), (2, 80)], 3, 40, .agg [.int .i64 0, .int .i64 0, .sl false 0 []], true⟩ := by kernel_rfl
@[go_sem] theorem ti87 : T.ti 87 = some ⟨.slice 153, 1, 24, .sl false 0 [], true⟩ := by kernel_rfl
@[go_sem] theorem ti92 : T.ti 92 = some ⟨.slice 237, 1, 24, .sl false 0 [], true⟩ := by kernel_rfl
@[go_sem] theorem ti100 : T.ti 100 = some ⟨.struct [(0, 3), (1, 3)], 2, 16, .agg [.int .i64 0, .int .i64 0], true⟩ := by kernel_rfl
@[go_sem] theorem ti102 : T.ti 102 = some ⟨.struct [(0, 3), (1, 100)], 3, 24, .agg [.int .i64 0, .int .i64 0, .int .i64 0], true⟩ := by kernel_rfl
@[go_sem] theorem ti106 : T.ti 106 = some ⟨.struct [(0, 3), (1, 100)], 3, 24, .agg [.int .i64 0, .int .i64 0, .int .i64 0], true⟩ := by kernel_rfl
@[go_sem] theorem ti119 : T.ti 119 = some ⟨.slice 176, 1, 24, .sl false 0 [], true⟩ := by kernel_rfl
@[go_sem] theorem ti123 : T.ti 123 = some ⟨.slice 178, 1, 24, .sl false 0 [], true⟩ := by kernel_rfl
@[go_sem] theorem ti140 : T.ti 140 = some ⟨.struct [(0, 9), (1, 3), (2, 72)], 3, 48, .agg [.str [], .int .i64 0, .sl false 0 []], true⟩ := by kernel_rfl
@[go_sem] theorem ti142 : T.ti 142 = some ⟨.struct [(0, 3), (1, 3)], 2, 16, .agg [.int .i64 0, .int .i64 0], true⟩ := by kernel_rfl
@[go_sem] theorem ti147 : T.ti 147 = some ⟨.int .i16, 1, 2, .int .i16 0, true⟩ := by kernel_rfl
@[go_sem] theorem ti148 : T.ti 148 = some ⟨.array 4 147, 4, 8, .agg [.int .i16 0, .int .i16 0, .int .i16 0, .int .i16 0], true⟩ := by kernel_rfl
@[go_sem] theorem ti150 : T.ti 150 = some ⟨.float .f32, 1, 4, .flt .f32 0, true⟩ := by kernel_rfl
@[go_sem] theorem ti151 : T.ti 151 = some ⟨.map 3 3, 1, 8, .nilm, true⟩ := by kernel_rfl
@[go_sem] theorem ti153 : T.ti 153 = some ⟨.struct [(0, 100), (2, 3)], 3, 24, .agg [.int .i64 0, .int .i64 0, .int .i64 0], true⟩ := by kernel_rfl
@[go_sem] theorem ti176 : T.ti 176 = some ⟨.array 8 5, 8, 8, .agg [.int .u8 0, .int .u8 0, .int .u8 0, .int .u8 0, .int .u8 0, .int .u8 0, .int .u8 0, .int .u8 0], true⟩ := by kernel_rfl
@[go_sem] theorem ti178 : T.ti 178 = some ⟨.struct [(0, 176), (8, 100)], 10, 24, .agg [.int .u8 0, .int .u8 0, .int .u8 0, .int .u8 0, .int .u8 0, .int .u8 0, .int .u8 0, .int .u8 0, .int .i64 0, .int .i64 0], true⟩ := by kernel_rfl
@[go_sem] theorem ti180 : T.ti 180 = some ⟨.struct [(0, 9), (1, 3), (2, 72)], 3, 48, .agg [.str [], .int .i64 0, .sl false 0 []], true⟩ := by kernel_rfl
@[go_sem] theorem ti182 : T.ti 182 = some ⟨.func, 1, 8, .nilf, true⟩ := by kernel_rfl
@[go_sem] theorem ti187 : T.ti 187 = some ⟨.slice 29, 1, 24, .sl false 0 [], true⟩ := by kernel_rfl
@[go_sem] theorem ti189 : T.ti 189 = some ⟨.func, 1, 8, .nilf, true⟩ := by kernel_rfl
@[go_sem] theorem ti190 : T.ti 190 = some ⟨.func, 1, 8, .nilf, true⟩ := by kernel_rfl
@[go_sem] theorem ti191 : T.ti 191 = some ⟨.func, 1, 8, .nilf, true⟩ := by kernel_rfl
@[go_sem] theorem ti199 : T.ti 199 = some ⟨.func, 1, 8, .nilf, true⟩ := by kernel_rfl
@[go_sem] theorem ti201 : T.ti 201 = some ⟨.func, 1, 8, .nilf, true⟩ := by kernel_rfl
@[go_sem] theorem ti205 : T.ti 205 = some ⟨.func, 1, 8, .nilf, true⟩ := by kernel_rfl
@[go_sem] theorem ti209 : T.ti 209 = some ⟨.func, 1, 8, .nilf, true⟩ := by kernel_rfl
@[go_sem] theorem ti213 : T.ti 213 = some ⟨.func, 1, 8, .nilf, true⟩ := by kernel_rfl
@[go_sem] theorem ti215 : T.ti 215 = some ⟨.func, 1, 8, .nilf, true⟩ := by kernel_rfl
@[go_sem] theorem ti219 : T.ti 219 = some ⟨.func, 1, 8, .nilf, true⟩ := by kernel_rfl
@[go_sem] theorem ti224 : T.ti 224 = some ⟨.map 100 4, 1, 8, .nilm, true⟩ := by kernel_rfl
@[go_sem] theorem ti225 : T.ti 225 = some ⟨.slice 227, 1, 24, .sl false 0 [], true⟩ := by kernel_rfl
@[go_sem] theorem ti227 : T.ti 227 = some ⟨.struct [(0, 153), (3, 48)], 4, 48, .agg [.int .i64 0, .int .i64 0, .int .i64 0, .sl false 0 []], true⟩ := by kernel_rfl
@[go_sem] theorem ti228 : T.ti 228 = some ⟨.func, 1, 8, .nilf, true⟩ := by kernel_rfl
@[go_sem] theorem ti230 : T.ti 230 = some ⟨.struct [(0, 9), (1, 228)], 2, 24, .agg [.str [], .nilf], true⟩ := by kernel_rfl
@[go_sem] theorem ti231 : T.ti 231 = some ⟨.array 4 230, 8, 96, .agg [.str [], .nilf, .str [], .nilf, .str [], .nilf, .str [], .nilf], true⟩ := by kernel_rfl
@[go_sem] theorem ti234 : T.ti 234 = some ⟨.func, 1, 8, .nilf, true⟩ := by kernel_rfl
@[go_sem] theorem ti235 : T.ti 235 = some ⟨.func, 1, 8, .nilf, true⟩ := by kernel_rfl
@[go_sem] theorem ti237 : T.ti 237 = some ⟨.struct [(0, 100), (2, 3)], 3, 24, .agg [.int .i64 0, .int .i64 0, .int .i64 0], true⟩ := by kernel_rfl
@[go_sem] theorem ti239 : T.ti 239 = some ⟨.func, 1, 8, .nilf, true⟩ := by kernel_rfl
@[go_sem] theorem ti245 : T.ti 245 = some ⟨.func, 1, 8, .nilf, true⟩ := by kernel_rfl
@[go_sem] theorem ti246 : T.ti 246 = some ⟨.map 100 176, 1, 8, .nilm, true⟩ := by kernel_rfl
@[go_sem] theorem ti251 : T.ti 251 = some ⟨.func, 1, 8, .nilf, true⟩ := by kernel_rfl
@[go_sem] theorem ti253 : T.ti 253 = some ⟨.slice 5, 1, 24, .sl false 0 [], true⟩ := by kernel_rfl
@[go_sem] theorem ti257 : T.ti 257 = some ⟨.func, 1, 8, .nilf, true⟩ := by kernel_rfl
@[go_sem] theorem ti276 : T.ti 276 = some ⟨.map 9 4, 1, 8, .nilm, true⟩ := by kernel_rfl
@[go_sem] theorem ti279 : T.ti 279 = some ⟨.func, 1, 8, .nilf, true⟩ := by kernel_rfl
@[go_sem] theorem ti285 : T.ti 285 = some ⟨.func, 1, 8, .nilf, true⟩ := by kernel_rfl
@[go_sem] theorem ti295 : T.ti 295 = some ⟨.ptr 297, 1, 8, .nilp, true⟩ := by kernel_rfl
@[go_sem] theorem ti297 : T.ti 297 = some ⟨.struct [(0, 295), (1, 253)], 2, 32, .agg [.nilp, .sl false 0 []], true⟩ := by kernel_rfl
@[go_sem] theorem ti308 : T.ti 308 = some ⟨.int .u64, 1, 8, .int .u64 0, true⟩ := by kernel_rfl
@[go_sem] theorem ti310 : T.ti 310 = some ⟨.float .f64, 1, 8, .flt .f64 0, true⟩ := by kernel_rfl
@[go_sem] theorem ti320 : T.ti 320 = some ⟨.int .i64, 1, 8, .int .i64 0, true⟩ := by kernel_rfl
@[go_sem] theorem ti327 : T.ti 327 = some ⟨.int .u32, 1, 4, .int .u32 0, true⟩ := by kernel_rfl
@[go_sem] theorem ti329 : T.ti 329 = some ⟨.int .u64, 1, 8, .int .u64 0, true⟩ := by kernel_rfl
@[go_sem] theorem ti341 : T.ti 341 = some ⟨.int .u64, 1, 8, .int .u64 0, true⟩ := by kernel_rfl
@[go_sem] theorem ti345 : T.ti 345 = some ⟨.ptr 3, 1, 8, .nilp, true⟩ := by kernel_rfl
@[go_sem] theorem glob0 : T.glob 0 = some [.str [110, 111, 110, 101], .fn 327 [], .str [111, 110, 101], .fn 328 [], .str [116, 119, 111], .fn 329 [], .str [116, 104, 114, 101, 101], .fn 330 []] := by kernel_rfl
end Go.Den.FaT
