import Derived.Test.YtifljcjddphpjaaGreatDoorFaTab
import Derived.Attr
set_option linter.all false
namespace Go.Den.FaT
open Go Go.Proofs Go.Den
@[go_sem] theorem ti0 : T.ti 0 = some ⟨.tuple [], 1, 0, .undef, true⟩ := by kernel_rfl
@[go_sem] theorem ti1 : T.ti 1 = some ⟨.func, 1, 8, .nilf, true⟩ := by kernel_rfl
@[go_sem] theorem ti2 : T.ti 2 = some ⟨.int .i64, 1, 8, .int .i64 0, true⟩ := by kernel_rfl
@[go_sem] theorem ti3 : T.ti 3 = some ⟨.int .i64, 1, 8, .int .i64 0, true⟩ := by kernel_rfl
@[go_sem] theorem ti4 : T.ti 4 = some ⟨.bool, 1, 1, .bool false, true⟩ := by kernel_rfl
@[go_sem] theorem ti5 : T.ti 5 = some ⟨.int .u8, 1, 1, .int .u8 0, true⟩ := by kernel_rfl
@[go_sem] theorem ti6 : T.ti 6 = some ⟨.int .u8, 1, 1, .int .u8 0, true⟩ := by kernel_rfl
@[go_sem] theorem ti7 : T.ti 7 = some ⟨.struct [(0, 2), (1, 3), (2, 4), (3, 6)], 4, 24, .agg [.int .i64 0, .int .i64 0, .bool false, .int .u8 0], true⟩ := by kernel_rfl
@[go_sem] theorem ti8 : T.ti 8 = some ⟨.struct [(0, 2), (1, 3), (2, 4), (3, 6)], 4, 24, .agg [.int .i64 0, .int .i64 0, .bool false, .int .u8 0], true⟩ := by kernel_rfl
@[go_sem] theorem ti9 : T.ti 9 = some ⟨.string, 1, 16, .str [], true⟩ := by kernel_rfl
@[go_sem] theorem ti10 : T.ti 10 = some ⟨.string, 1, 16, .str [], true⟩ := by kernel_rfl
@[go_sem] theorem ti11 : T.ti 11 = some ⟨.string, 1, 16, .str [], true⟩ := by kernel_rfl
@[go_sem] theorem ti12 : T.ti 12 = some ⟨.int .u64, 1, 8, .int .u64 0, true⟩ := by kernel_rfl
@[go_sem] theorem ti13 : T.ti 13 = some ⟨.struct [(0, 9), (1, 12)], 2, 24, .agg [.str [], .int .u64 0], false⟩ := by kernel_rfl
@[go_sem] theorem ti14 : T.ti 14 = some ⟨.struct [(0, 9), (1, 12)], 2, 24, .agg [.str [], .int .u64 0], false⟩ := by kernel_rfl
@[go_sem] theorem ti15 : T.ti 15 = some ⟨.ptr 374, 1, 8, .nilp, true⟩ := by kernel_rfl
@[go_sem] theorem ti16 : T.ti 16 = some ⟨.ptr 377, 1, 8, .nilp, true⟩ := by kernel_rfl
@[go_sem] theorem ti17 : T.ti 17 = some ⟨.ptr 384, 1, 8, .nilp, true⟩ := by kernel_rfl
@[go_sem] theorem ti18 : T.ti 18 = some ⟨.struct [(0, 17)], 1, 8, .agg [.nilp], false⟩ := by kernel_rfl
@[go_sem] theorem ti19 : T.ti 19 = some ⟨.struct [(0, 17)], 1, 8, .agg [.nilp], false⟩ := by kernel_rfl
@[go_sem] theorem ti20 : T.ti 20 = some ⟨.iface, 1, 16, .nili, true⟩ := by kernel_rfl
@[go_sem] theorem ti21 : T.ti 21 = some ⟨.int .i32, 1, 4, .int .i32 0, true⟩ := by kernel_rfl
@[go_sem] theorem ti22 : T.ti 22 = some ⟨.slice 28, 1, 24, .sl false 0 [], true⟩ := by kernel_rfl
@[go_sem] theorem ti23 : T.ti 23 = some ⟨.slice 140, 1, 24, .sl false 0 [], true⟩ := by kernel_rfl
@[go_sem] theorem ti24 : T.ti 24 = some ⟨.struct [(0, 22), (1, 3), (2, 23)], 3, 56, .agg [.sl false 0 [], .int .i64 0, .sl false 0 []], true⟩ := by kernel_rfl
@[go_sem] theorem ti25 : T.ti 25 = some ⟨.struct [(0, 22), (1, 3), (2, 23)], 3, 56, .agg [.sl false 0 [], .int .i64 0, .sl false 0 []], true⟩ := by kernel_rfl
@[go_sem] theorem ti26 : T.ti 26 = some ⟨.func, 1, 8, .nilf, true⟩ := by kernel_rfl
@[go_sem] theorem ti27 : T.ti 27 = some ⟨.func, 1, 8, .nilf, true⟩ := by kernel_rfl
@[go_sem] theorem ti28 : T.ti 28 = some ⟨.slice 3, 1, 24, .sl false 0 [], true⟩ := by kernel_rfl
@[go_sem] theorem ti29 : T.ti 29 = some ⟨.int .i64, 1, 8, .int .i64 0, true⟩ := by kernel_rfl
@[go_sem] theorem ti30 : T.ti 30 = some ⟨.tuple [28, 29], 1, 0, .undef, true⟩ := by kernel_rfl
@[go_sem] theorem ti31 : T.ti 31 = some ⟨.func, 1, 8, .nilf, true⟩ := by kernel_rfl
@[go_sem] theorem ti32 : T.ti 32 = some ⟨.slice 180, 1, 24, .sl false 0 [], true⟩ := by kernel_rfl
@[go_sem] theorem ti33 : T.ti 33 = some ⟨.struct [(0, 22), (1, 3), (2, 32)], 3, 56, .agg [.sl false 0 [], .int .i64 0, .sl false 0 []], true⟩ := by kernel_rfl
@[go_sem] theorem ti34 : T.ti 34 = some ⟨.struct [(0, 22), (1, 3), (2, 32)], 3, 56, .agg [.sl false 0 [], .int .i64 0, .sl false 0 []], true⟩ := by kernel_rfl
@[go_sem] theorem ti35 : T.ti 35 = some ⟨.func, 1, 8, .nilf, true⟩ := by kernel_rfl
@[go_sem] theorem ti36 : T.ti 36 = some ⟨.tuple [22, 29], 1, 0, .undef, true⟩ := by kernel_rfl
@[go_sem] theorem ti37 : T.ti 37 = some ⟨.func, 1, 8, .nilf, true⟩ := by kernel_rfl
@[go_sem] theorem ti38 : T.ti 38 = some ⟨.func, 1, 8, .nilf, true⟩ := by kernel_rfl
@[go_sem] theorem ti39 : T.ti 39 = some ⟨.func, 1, 8, .nilf, true⟩ := by kernel_rfl
@[go_sem] theorem ti40 : T.ti 40 = some ⟨.func, 1, 8, .nilf, true⟩ := by kernel_rfl
@[go_sem] theorem ti41 : T.ti 41 = some ⟨.func, 1, 8, .nilf, true⟩ := by kernel_rfl
@[go_sem] theorem ti42 : T.ti 42 = some ⟨.func, 1, 8, .nilf, true⟩ := by kernel_rfl
@[go_sem] theorem ti43 : T.ti 43 = some ⟨.func, 1, 8, .nilf, true⟩ := by kernel_rfl
@[go_sem] theorem ti44 : T.ti 44 = some ⟨.slice 72, 1, 24, .sl false 0 [], true⟩ := by kernel_rfl
@[go_sem] theorem ti45 : T.ti 45 = some ⟨.tuple [44, 29], 1, 0, .undef, true⟩ := by kernel_rfl
@[go_sem] theorem ti46 : T.ti 46 = some ⟨.func, 1, 8, .nilf, true⟩ := by kernel_rfl
@[go_sem] theorem ti47 : T.ti 47 = some ⟨.func, 1, 8, .nilf, true⟩ := by kernel_rfl
@[go_sem] theorem ti48 : T.ti 48 = some ⟨.slice 100, 1, 24, .sl false 0 [], true⟩ := by kernel_rfl
@[go_sem] theorem ti49 : T.ti 49 = some ⟨.tuple [48, 29], 1, 0, .undef, true⟩ := by kernel_rfl
@[go_sem] theorem ti50 : T.ti 50 = some ⟨.func, 1, 8, .nilf, true⟩ := by kernel_rfl
@[go_sem] theorem ti51 : T.ti 51 = some ⟨.tuple [4, 29], 1, 0, .undef, true⟩ := by kernel_rfl
@[go_sem] theorem ti52 : T.ti 52 = some ⟨.func, 1, 8, .nilf, true⟩ := by kernel_rfl
@[go_sem] theorem ti53 : T.ti 53 = some ⟨.func, 1, 8, .nilf, true⟩ := by kernel_rfl
@[go_sem] theorem ti54 : T.ti 54 = some ⟨.func, 1, 8, .nilf, true⟩ := by kernel_rfl
@[go_sem] theorem ti55 : T.ti 55 = some ⟨.func, 1, 8, .nilf, true⟩ := by kernel_rfl
@[go_sem] theorem ti56 : T.ti 56 = some ⟨.func, 1, 8, .nilf, true⟩ := by kernel_rfl
@[go_sem] theorem ti57 : T.ti 57 = some ⟨.func, 1, 8, .nilf, true⟩ := by kernel_rfl
@[go_sem] theorem ti58 : T.ti 58 = some ⟨.func, 1, 8, .nilf, true⟩ := by kernel_rfl
@[go_sem] theorem ti59 : T.ti 59 = some ⟨.func, 1, 8, .nilf, true⟩ := by kernel_rfl
@[go_sem] theorem ti60 : T.ti 60 = some ⟨.slice 9, 1, 24, .sl false 0 [], true⟩ := by kernel_rfl
@[go_sem] theorem ti61 : T.ti 61 = some ⟨.tuple [60, 29], 1, 0, .undef, true⟩ := by kernel_rfl
@[go_sem] theorem ti62 : T.ti 62 = some ⟨.func, 1, 8, .nilf, true⟩ := by kernel_rfl
@[go_sem] theorem ti63 : T.ti 63 = some ⟨.func, 1, 8, .nilf, true⟩ := by kernel_rfl
@[go_sem] theorem ti64 : T.ti 64 = some ⟨.func, 1, 8, .nilf, true⟩ := by kernel_rfl
@[go_sem] theorem ti65 : T.ti 65 = some ⟨.func, 1, 8, .nilf, true⟩ := by kernel_rfl
@[go_sem] theorem ti66 : T.ti 66 = some ⟨.func, 1, 8, .nilf, true⟩ := by kernel_rfl
@[go_sem] theorem ti67 : T.ti 67 = some ⟨.func, 1, 8, .nilf, true⟩ := by kernel_rfl
@[go_sem] theorem ti68 : T.ti 68 = some ⟨.func, 1, 8, .nilf, true⟩ := by kernel_rfl
@[go_sem] theorem ti69 : T.ti 69 = some ⟨.func, 1, 8, .nilf, true⟩ := by kernel_rfl
@[go_sem] theorem ti70 : T.ti 70 = some ⟨.func, 1, 8, .nilf, true⟩ := by kernel_rfl
@[go_sem] theorem ti71 : T.ti 71 = some ⟨.func, 1, 8, .nilf, true⟩ := by kernel_rfl
@[go_sem] theorem ti72 : T.ti 72 = some ⟨.slice 142, 1, 24, .sl false 0 [], true⟩ := by kernel_rfl
@[go_sem] theorem ti73 : T.ti 73 = some ⟨.tuple [34, 29], 1, 0, .undef, true⟩ := by kernel_rfl
@[go_sem] theorem ti74 : T.ti 74 = some ⟨.func, 1, 8, .nilf, true⟩ := by kernel_rfl
@[go_sem] theorem ti75 : T.ti 75 = some ⟨.func, 1, 8, .nilf, true⟩ := by kernel_rfl
@[go_sem] theorem ti76 : T.ti 76 = some ⟨.func, 1, 8, .nilf, true⟩ := by kernel_rfl
@[go_sem] theorem ti77 : T.ti 77 = some ⟨.func, 1, 8, .nilf, true⟩ := by kernel_rfl
@[go_sem] theorem ti78 : T.ti 78 = some ⟨.func, 1, 8, .nilf, true⟩ := by kernel_rfl
@[go_sem] theorem ti79 : T.ti 79 = some ⟨.func, 1, 8, .nilf, true⟩ := by kernel_rfl
@[go_sem] theorem ti80 : T.ti 80 = some ⟨.slice 150, 1, 24, .sl false 0 [], true⟩ := by kernel_rfl
@[go_sem] theorem ti81 : T.ti 81 = some ⟨.struct [(0, 3), (1, 3), (2, 80)], 3, 40, .agg [.int .i64 0, .int .i64 0, .sl false 0 []], true⟩ := by kernel_rfl
@[go_sem] theorem ti82 : T.ti 82 = some ⟨.struct [(0, 3), (1, 3), (2, 80)], 3, 40, .agg [.int .i64 0, .int .i64 0, .sl false 0 []], true⟩ := by kernel_rfl
@[go_sem] theorem ti83 : T.ti 83 = some ⟨.func, 1, 8, .nilf, true⟩ := by kernel_rfl
@[go_sem] theorem ti84 : T.ti 84 = some ⟨.func, 1, 8, .nilf, true⟩ := by kernel_rfl
@[go_sem] theorem ti85 : T.ti 85 = some ⟨.struct [(0, 3), (1, 3), (2, 80)], 3, 40, .agg [.int .i64 0, .int .i64 0, .sl false 0 []], true⟩ := by kernel_rfl
@[go_sem] theorem ti86 : T.ti 86 = some ⟨.func, 1, 8, .nilf, true⟩ := by kernel_rfl
@[go_sem] theorem ti87 : T.ti 87 = some ⟨.slice 153, 1, 24, .sl false 0 [], true⟩ := by kernel_rfl
@[go_sem] theorem ti88 : T.ti 88 = some ⟨.tuple [87, 29], 1, 0, .undef, true⟩ := by kernel_rfl
@[go_sem] theorem ti89 : T.ti 89 = some ⟨.func, 1, 8, .nilf, true⟩ := by kernel_rfl
@[go_sem] theorem ti90 : T.ti 90 = some ⟨.func, 1, 8, .nilf, true⟩ := by kernel_rfl
@[go_sem] theorem ti91 : T.ti 91 = some ⟨.func, 1, 8, .nilf, true⟩ := by kernel_rfl
@[go_sem] theorem ti92 : T.ti 92 = some ⟨.slice 237, 1, 24, .sl false 0 [], true⟩ := by kernel_rfl
@[go_sem] theorem ti93 : T.ti 93 = some ⟨.func, 1, 8, .nilf, true⟩ := by kernel_rfl
@[go_sem] theorem ti94 : T.ti 94 = some ⟨.func, 1, 8, .nilf, true⟩ := by kernel_rfl
@[go_sem] theorem ti95 : T.ti 95 = some ⟨.func, 1, 8, .nilf, true⟩ := by kernel_rfl
@[go_sem] theorem ti96 : T.ti 96 = some ⟨.func, 1, 8, .nilf, true⟩ := by kernel_rfl
@[go_sem] theorem ti97 : T.ti 97 = some ⟨.func, 1, 8, .nilf, true⟩ := by kernel_rfl
@[go_sem] theorem ti98 : T.ti 98 = some ⟨.func, 1, 8, .nilf, true⟩ := by kernel_rfl
@[go_sem] theorem ti99 : T.ti 99 = some ⟨.struct [(0, 3), (1, 3)], 2, 16, .agg [.int .i64 0, .int .i64 0], true⟩ := by kernel_rfl
@[go_sem] theorem ti100 : T.ti 100 = some ⟨.struct [(0, 3), (1, 3)], 2, 16, .agg [.int .i64 0, .int .i64 0], true⟩ := by kernel_rfl
@[go_sem] theorem ti101 : T.ti 101 = some ⟨.struct [(0, 3), (1, 100)], 3, 24, .agg [.int .i64 0, .int .i64 0, .int .i64 0], true⟩ := by kernel_rfl
@[go_sem] theorem ti102 : T.ti 102 = some ⟨.struct [(0, 3), (1, 100)], 3, 24, .agg [.int .i64 0, .int .i64 0, .int .i64 0], true⟩ := by kernel_rfl
@[go_sem] theorem ti103 : T.ti 103 = some ⟨.array 2 48, 2, 48, .agg [.sl false 0 [], .sl false 0 []], true⟩ := by kernel_rfl
@[go_sem] theorem ti104 : T.ti 104 = some ⟨.tuple [100, 29], 1, 0, .undef, true⟩ := by kernel_rfl
@[go_sem] theorem ti105 : T.ti 105 = some ⟨.func, 1, 8, .nilf, true⟩ := by kernel_rfl
@[go_sem] theorem ti106 : T.ti 106 = some ⟨.struct [(0, 3), (1, 100)], 3, 24, .agg [.int .i64 0, .int .i64 0, .int .i64 0], true⟩ := by kernel_rfl
@[go_sem] theorem ti107 : T.ti 107 = some ⟨.tuple [106, 28, 29], 1, 0, .undef, true⟩ := by kernel_rfl
@[go_sem] theorem ti108 : T.ti 108 = some ⟨.func, 1, 8, .nilf, true⟩ := by kernel_rfl
@[go_sem] theorem ti109 : T.ti 109 = some ⟨.func, 1, 8, .nilf, true⟩ := by kernel_rfl
@[go_sem] theorem ti110 : T.ti 110 = some ⟨.func, 1, 8, .nilf, true⟩ := by kernel_rfl
@[go_sem] theorem ti111 : T.ti 111 = some ⟨.func, 1, 8, .nilf, true⟩ := by kernel_rfl
@[go_sem] theorem ti112 : T.ti 112 = some ⟨.func, 1, 8, .nilf, true⟩ := by kernel_rfl
@[go_sem] theorem ti113 : T.ti 113 = some ⟨.tuple [102, 28, 3], 1, 0, .undef, true⟩ := by kernel_rfl
@[go_sem] theorem ti114 : T.ti 114 = some ⟨.func, 1, 8, .nilf, true⟩ := by kernel_rfl
@[go_sem] theorem ti115 : T.ti 115 = some ⟨.func, 1, 8, .nilf, true⟩ := by kernel_rfl
@[go_sem] theorem ti116 : T.ti 116 = some ⟨.slice 250, 1, 24, .sl false 0 [], true⟩ := by kernel_rfl
@[go_sem] theorem ti117 : T.ti 117 = some ⟨.func, 1, 8, .nilf, true⟩ := by kernel_rfl
@[go_sem] theorem ti118 : T.ti 118 = some ⟨.func, 1, 8, .nilf, true⟩ := by kernel_rfl
@[go_sem] theorem ti119 : T.ti 119 = some ⟨.slice 176, 1, 24, .sl false 0 [], true⟩ := by kernel_rfl
@[go_sem] theorem ti120 : T.ti 120 = some ⟨.tuple [119, 28, 29], 1, 0, .undef, true⟩ := by kernel_rfl
@[go_sem] theorem ti121 : T.ti 121 = some ⟨.func, 1, 8, .nilf, true⟩ := by kernel_rfl
@[go_sem] theorem ti122 : T.ti 122 = some ⟨.func, 1, 8, .nilf, true⟩ := by kernel_rfl
@[go_sem] theorem ti123 : T.ti 123 = some ⟨.slice 178, 1, 24, .sl false 0 [], true⟩ := by kernel_rfl
@[go_sem] theorem ti124 : T.ti 124 = some ⟨.func, 1, 8, .nilf, true⟩ := by kernel_rfl
@[go_sem] theorem ti125 : T.ti 125 = some ⟨.func, 1, 8, .nilf, true⟩ := by kernel_rfl
@[go_sem] theorem ti126 : T.ti 126 = some ⟨.func, 1, 8, .nilf, true⟩ := by kernel_rfl
@[go_sem] theorem ti127 : T.ti 127 = some ⟨.slice 248, 1, 24, .sl false 0 [], true⟩ := by kernel_rfl
@[go_sem] theorem ti128 : T.ti 128 = some ⟨.tuple [127, 28], 1, 0, .undef, true⟩ := by kernel_rfl
@[go_sem] theorem ti129 : T.ti 129 = some ⟨.func, 1, 8, .nilf, true⟩ := by kernel_rfl
@[go_sem] theorem ti130 : T.ti 130 = some ⟨.func, 1, 8, .nilf, true⟩ := by kernel_rfl
@[go_sem] theorem ti131 : T.ti 131 = some ⟨.func, 1, 8, .nilf, true⟩ := by kernel_rfl
@[go_sem] theorem ti132 : T.ti 132 = some ⟨.func, 1, 8, .nilf, true⟩ := by kernel_rfl
@[go_sem] theorem ti133 : T.ti 133 = some ⟨.func, 1, 8, .nilf, true⟩ := by kernel_rfl
@[go_sem] theorem ti134 : T.ti 134 = some ⟨.slice 136, 1, 24, .sl false 0 [], true⟩ := by kernel_rfl
@[go_sem] theorem ti135 : T.ti 135 = some ⟨.slice 137, 1, 24, .sl false 0 [], true⟩ := by kernel_rfl
@[go_sem] theorem ti136 : T.ti 136 = some ⟨.int .u16, 1, 2, .int .u16 0, true⟩ := by kernel_rfl
@[go_sem] theorem ti137 : T.ti 137 = some ⟨.array 2 5, 2, 2, .agg [.int .u8 0, .int .u8 0], true⟩ := by kernel_rfl
@[go_sem] theorem ti138 : T.ti 138 = some ⟨.func, 1, 8, .nilf, true⟩ := by kernel_rfl
@[go_sem] theorem ti139 : T.ti 139 = some ⟨.struct [(0, 9), (1, 3), (2, 72)], 3, 48, .agg [.str [], .int .i64 0, .sl false 0 []], true⟩ := by kernel_rfl
@[go_sem] theorem ti140 : T.ti 140 = some ⟨.struct [(0, 9), (1, 3), (2, 72)], 3, 48, .agg [.str [], .int .i64 0, .sl false 0 []], true⟩ := by kernel_rfl
@[go_sem] theorem ti141 : T.ti 141 = some ⟨.struct [(0, 3), (1, 3)], 2, 16, .agg [.int .i64 0, .int .i64 0], true⟩ := by kernel_rfl
@[go_sem] theorem ti142 : T.ti 142 = some ⟨.struct [(0, 3), (1, 3)], 2, 16, .agg [.int .i64 0, .int .i64 0], true⟩ := by kernel_rfl
@[go_sem] theorem ti143 : T.ti 143 = some ⟨.func, 1, 8, .nilf, true⟩ := by kernel_rfl
@[go_sem] theorem ti144 : T.ti 144 = some ⟨.func, 1, 8, .nilf, true⟩ := by kernel_rfl
@[go_sem] theorem ti145 : T.ti 145 = some ⟨.func, 1, 8, .nilf, true⟩ := by kernel_rfl
@[go_sem] theorem ti146 : T.ti 146 = some ⟨.func, 1, 8, .nilf, true⟩ := by kernel_rfl
@[go_sem] theorem ti147 : T.ti 147 = some ⟨.int .i16, 1, 2, .int .i16 0, true⟩ := by kernel_rfl
@[go_sem] theorem ti148 : T.ti 148 = some ⟨.array 4 147, 4, 8, .agg [.int .i16 0, .int .i16 0, .int .i16 0, .int .i16 0], true⟩ := by kernel_rfl
@[go_sem] theorem ti149 : T.ti 149 = some ⟨.func, 1, 8, .nilf, true⟩ := by kernel_rfl
@[go_sem] theorem ti150 : T.ti 150 = some ⟨.float .f32, 1, 4, .flt .f32 0, true⟩ := by kernel_rfl
@[go_sem] theorem ti151 : T.ti 151 = some ⟨.map 3 3, 1, 8, .nilm, true⟩ := by kernel_rfl
@[go_sem] theorem ti152 : T.ti 152 = some ⟨.struct [(0, 100), (2, 3)], 3, 24, .agg [.int .i64 0, .int .i64 0, .int .i64 0], true⟩ := by kernel_rfl
@[go_sem] theorem ti153 : T.ti 153 = some ⟨.struct [(0, 100), (2, 3)], 3, 24, .agg [.int .i64 0, .int .i64 0, .int .i64 0], true⟩ := by kernel_rfl
@[go_sem] theorem ti154 : T.ti 154 = some ⟨.func, 1, 8, .nilf, true⟩ := by kernel_rfl
@[go_sem] theorem ti155 : T.ti 155 = some ⟨.func, 1, 8, .nilf, true⟩ := by kernel_rfl
@[go_sem] theorem ti156 : T.ti 156 = some ⟨.tuple [9, 29], 1, 0, .undef, true⟩ := by kernel_rfl
@[go_sem] theorem ti157 : T.ti 157 = some ⟨.func, 1, 8, .nilf, true⟩ := by kernel_rfl
@[go_sem] theorem ti158 : T.ti 158 = some ⟨.tuple [32, 3, 29], 1, 0, .undef, true⟩ := by kernel_rfl
@[go_sem] theorem ti159 : T.ti 159 = some ⟨.func, 1, 8, .nilf, true⟩ := by kernel_rfl
@[go_sem] theorem ti160 : T.ti 160 = some ⟨.func, 1, 8, .nilf, true⟩ := by kernel_rfl
@[go_sem] theorem ti161 : T.ti 161 = some ⟨.tuple [23, 3, 3], 1, 0, .undef, true⟩ := by kernel_rfl
@[go_sem] theorem ti162 : T.ti 162 = some ⟨.func, 1, 8, .nilf, true⟩ := by kernel_rfl
@[go_sem] theorem ti163 : T.ti 163 = some ⟨.func, 1, 8, .nilf, true⟩ := by kernel_rfl
@[go_sem] theorem ti164 : T.ti 164 = some ⟨.func, 1, 8, .nilf, true⟩ := by kernel_rfl
@[go_sem] theorem ti165 : T.ti 165 = some ⟨.func, 1, 8, .nilf, true⟩ := by kernel_rfl
@[go_sem] theorem ti166 : T.ti 166 = some ⟨.array 3 5, 3, 3, .agg [.int .u8 0, .int .u8 0, .int .u8 0], true⟩ := by kernel_rfl
@[go_sem] theorem ti167 : T.ti 167 = some ⟨.func, 1, 8, .nilf, true⟩ := by kernel_rfl
@[go_sem] theorem ti168 : T.ti 168 = some ⟨.func, 1, 8, .nilf, true⟩ := by kernel_rfl
@[go_sem] theorem ti169 : T.ti 169 = some ⟨.func, 1, 8, .nilf, true⟩ := by kernel_rfl
@[go_sem] theorem ti170 : T.ti 170 = some ⟨.func, 1, 8, .nilf, true⟩ := by kernel_rfl
@[go_sem] theorem ti171 : T.ti 171 = some ⟨.func, 1, 8, .nilf, true⟩ := by kernel_rfl
@[go_sem] theorem ti172 : T.ti 172 = some ⟨.func, 1, 8, .nilf, true⟩ := by kernel_rfl
@[go_sem] theorem ti173 : T.ti 173 = some ⟨.func, 1, 8, .nilf, true⟩ := by kernel_rfl
@[go_sem] theorem ti174 : T.ti 174 = some ⟨.func, 1, 8, .nilf, true⟩ := by kernel_rfl
@[go_sem] theorem ti175 : T.ti 175 = some ⟨.array 8 5, 8, 8, .agg [.int .u8 0, .int .u8 0, .int .u8 0, .int .u8 0, .int .u8 0, .int .u8 0, .int .u8 0, .int .u8 0], true⟩ := by kernel_rfl
@[go_sem] theorem ti176 : T.ti 176 = some ⟨.array 8 5, 8, 8, .agg [.int .u8 0, .int .u8 0, .int .u8 0, .int .u8 0, .int .u8 0, .int .u8 0, .int .u8 0, .int .u8 0], true⟩ := by kernel_rfl
@[go_sem] theorem ti177 : T.ti 177 = some ⟨.struct [(0, 176), (8, 100)], 10, 24, .agg [.int .u8 0, .int .u8 0, .int .u8 0, .int .u8 0, .int .u8 0, .int .u8 0, .int .u8 0, .int .u8 0, .int .i64 0, .int .i64 0], true⟩ := by kernel_rfl
@[go_sem] theorem ti178 : T.ti 178 = some ⟨.struct [(0, 176), (8, 100)], 10, 24, .agg [.int .u8 0, .int .u8 0, .int .u8 0, .int .u8 0, .int .u8 0, .int .u8 0, .int .u8 0, .int .u8 0, .int .i64 0, .int .i64 0], true⟩ := by kernel_rfl
@[go_sem] theorem ti179 : T.ti 179 = some ⟨.func, 1, 8, .nilf, true⟩ := by kernel_rfl
@[go_sem] theorem ti180 : T.ti 180 = some ⟨.struct [(0, 9), (1, 3), (2, 72)], 3, 48, .agg [.str [], .int .i64 0, .sl false 0 []], true⟩ := by kernel_rfl
@[go_sem] theorem ti181 : T.ti 181 = some ⟨.func, 1, 8, .nilf, true⟩ := by kernel_rfl
@[go_sem] theorem ti182 : T.ti 182 = some ⟨.func, 1, 8, .nilf, true⟩ := by kernel_rfl
@[go_sem] theorem ti183 : T.ti 183 = some ⟨.func, 1, 8, .nilf, true⟩ := by kernel_rfl
@[go_sem] theorem ti184 : T.ti 184 = some ⟨.func, 1, 8, .nilf, true⟩ := by kernel_rfl
@[go_sem] theorem ti185 : T.ti 185 = some ⟨.func, 1, 8, .nilf, true⟩ := by kernel_rfl
@[go_sem] theorem ti186 : T.ti 186 = some ⟨.func, 1, 8, .nilf, true⟩ := by kernel_rfl
@[go_sem] theorem ti187 : T.ti 187 = some ⟨.slice 29, 1, 24, .sl false 0 [], true⟩ := by kernel_rfl
@[go_sem] theorem ti188 : T.ti 188 = some ⟨.func, 1, 8, .nilf, true⟩ := by kernel_rfl
@[go_sem] theorem ti189 : T.ti 189 = some ⟨.func, 1, 8, .nilf, true⟩ := by kernel_rfl
@[go_sem] theorem ti190 : T.ti 190 = some ⟨.func, 1, 8, .nilf, true⟩ := by kernel_rfl
@[go_sem] theorem ti191 : T.ti 191 = some ⟨.func, 1, 8, .nilf, true⟩ := by kernel_rfl
@[go_sem] theorem ti192 : T.ti 192 = some ⟨.func, 1, 8, .nilf, true⟩ := by kernel_rfl
@[go_sem] theorem ti193 : T.ti 193 = some ⟨.func, 1, 8, .nilf, true⟩ := by kernel_rfl
@[go_sem] theorem ti194 : T.ti 194 = some ⟨.func, 1, 8, .nilf, true⟩ := by kernel_rfl
@[go_sem] theorem ti195 : T.ti 195 = some ⟨.func, 1, 8, .nilf, true⟩ := by kernel_rfl
@[go_sem] theorem ti196 : T.ti 196 = some ⟨.func, 1, 8, .nilf, true⟩ := by kernel_rfl
@[go_sem] theorem ti197 : T.ti 197 = some ⟨.func, 1, 8, .nilf, true⟩ := by kernel_rfl
@[go_sem] theorem ti198 : T.ti 198 = some ⟨.func, 1, 8, .nilf, true⟩ := by kernel_rfl
@[go_sem] theorem ti199 : T.ti 199 = some ⟨.func, 1, 8, .nilf, true⟩ := by kernel_rfl
@[go_sem] theorem ti200 : T.ti 200 = some ⟨.func, 1, 8, .nilf, true⟩ := by kernel_rfl
@[go_sem] theorem ti201 : T.ti 201 = some ⟨.func, 1, 8, .nilf, true⟩ := by kernel_rfl
@[go_sem] theorem ti202 : T.ti 202 = some ⟨.func, 1, 8, .nilf, true⟩ := by kernel_rfl
@[go_sem] theorem ti203 : T.ti 203 = some ⟨.func, 1, 8, .nilf, true⟩ := by kernel_rfl
@[go_sem] theorem ti204 : T.ti 204 = some ⟨.func, 1, 8, .nilf, true⟩ := by kernel_rfl
@[go_sem] theorem ti205 : T.ti 205 = some ⟨.func, 1, 8, .nilf, true⟩ := by kernel_rfl
@[go_sem] theorem ti206 : T.ti 206 = some ⟨.func, 1, 8, .nilf, true⟩ := by kernel_rfl
@[go_sem] theorem ti207 : T.ti 207 = some ⟨.func, 1, 8, .nilf, true⟩ := by kernel_rfl
@[go_sem] theorem ti208 : T.ti 208 = some ⟨.func, 1, 8, .nilf, true⟩ := by kernel_rfl
@[go_sem] theorem ti209 : T.ti 209 = some ⟨.func, 1, 8, .nilf, true⟩ := by kernel_rfl
@[go_sem] theorem ti210 : T.ti 210 = some ⟨.func, 1, 8, .nilf, true⟩ := by kernel_rfl
@[go_sem] theorem ti211 : T.ti 211 = some ⟨.func, 1, 8, .nilf, true⟩ := by kernel_rfl
@[go_sem] theorem ti212 : T.ti 212 = some ⟨.func, 1, 8, .nilf, true⟩ := by kernel_rfl
@[go_sem] theorem ti213 : T.ti 213 = some ⟨.func, 1, 8, .nilf, true⟩ := by kernel_rfl
@[go_sem] theorem ti214 : T.ti 214 = some ⟨.func, 1, 8, .nilf, true⟩ := by kernel_rfl
@[go_sem] theorem ti215 : T.ti 215 = some ⟨.func, 1, 8, .nilf, true⟩ := by kernel_rfl
@[go_sem] theorem ti216 : T.ti 216 = some ⟨.func, 1, 8, .nilf, true⟩ := by kernel_rfl
@[go_sem] theorem ti217 : T.ti 217 = some ⟨.func, 1, 8, .nilf, true⟩ := by kernel_rfl
@[go_sem] theorem ti218 : T.ti 218 = some ⟨.func, 1, 8, .nilf, true⟩ := by kernel_rfl
@[go_sem] theorem ti219 : T.ti 219 = some ⟨.func, 1, 8, .nilf, true⟩ := by kernel_rfl
@[go_sem] theorem ti220 : T.ti 220 = some ⟨.func, 1, 8, .nilf, true⟩ := by kernel_rfl
@[go_sem] theorem ti221 : T.ti 221 = some ⟨.func, 1, 8, .nilf, true⟩ := by kernel_rfl
@[go_sem] theorem ti222 : T.ti 222 = some ⟨.func, 1, 8, .nilf, true⟩ := by kernel_rfl
@[go_sem] theorem ti223 : T.ti 223 = some ⟨.func, 1, 8, .nilf, true⟩ := by kernel_rfl
@[go_sem] theorem ti224 : T.ti 224 = some ⟨.map 100 4, 1, 8, .nilm, true⟩ := by kernel_rfl
@[go_sem] theorem ti225 : T.ti 225 = some ⟨.slice 227, 1, 24, .sl false 0 [], true⟩ := by kernel_rfl
@[go_sem] theorem ti226 : T.ti 226 = some ⟨.struct [(0, 153), (3, 48)], 4, 48, .agg [.int .i64 0, .int .i64 0, .int .i64 0, .sl false 0 []], true⟩ := by kernel_rfl
@[go_sem] theorem ti227 : T.ti 227 = some ⟨.struct [(0, 153), (3, 48)], 4, 48, .agg [.int .i64 0, .int .i64 0, .int .i64 0, .sl false 0 []], true⟩ := by kernel_rfl
@[go_sem] theorem ti228 : T.ti 228 = some ⟨.func, 1, 8, .nilf, true⟩ := by kernel_rfl
@[go_sem] theorem ti229 : T.ti 229 = some ⟨.struct [(0, 9), (1, 228)], 2, 24, .agg [.str [], .nilf], true⟩ := by kernel_rfl
@[go_sem] theorem ti230 : T.ti 230 = some ⟨.struct [(0, 9), (1, 228)], 2, 24, .agg [.str [], .nilf], true⟩ := by kernel_rfl
@[go_sem] theorem ti231 : T.ti 231 = some ⟨.array 4 230, 8, 96, .agg [.str [], .nilf, .str [], .nilf, .str [], .nilf, .str [], .nilf], true⟩ := by kernel_rfl
@[go_sem] theorem ti232 : T.ti 232 = some ⟨.func, 1, 8, .nilf, true⟩ := by kernel_rfl
@[go_sem] theorem ti233 : T.ti 233 = some ⟨.func, 1, 8, .nilf, true⟩ := by kernel_rfl
@[go_sem] theorem ti234 : T.ti 234 = some ⟨.func, 1, 8, .nilf, true⟩ := by kernel_rfl
@[go_sem] theorem ti235 : T.ti 235 = some ⟨.func, 1, 8, .nilf, true⟩ := by kernel_rfl
@[go_sem] theorem ti236 : T.ti 236 = some ⟨.func, 1, 8, .nilf, true⟩ := by kernel_rfl
@[go_sem] theorem ti237 : T.ti 237 = some ⟨.struct [(0, 100), (2, 3)], 3, 24, .agg [.int .i64 0, .int .i64 0, .int .i64 0], true⟩ := by kernel_rfl
@[go_sem] theorem ti238 : T.ti 238 = some ⟨.func, 1, 8, .nilf, true⟩ := by kernel_rfl
@[go_sem] theorem ti239 : T.ti 239 = some ⟨.func, 1, 8, .nilf, true⟩ := by kernel_rfl
@[go_sem] theorem ti240 : T.ti 240 = some ⟨.func, 1, 8, .nilf, true⟩ := by kernel_rfl
@[go_sem] theorem ti241 : T.ti 241 = some ⟨.func, 1, 8, .nilf, true⟩ := by kernel_rfl
@[go_sem] theorem ti242 : T.ti 242 = some ⟨.func, 1, 8, .nilf, true⟩ := by kernel_rfl
@[go_sem] theorem ti243 : T.ti 243 = some ⟨.func, 1, 8, .nilf, true⟩ := by kernel_rfl
@[go_sem] theorem ti244 : T.ti 244 = some ⟨.func, 1, 8, .nilf, true⟩ := by kernel_rfl
@[go_sem] theorem ti245 : T.ti 245 = some ⟨.func, 1, 8, .nilf, true⟩ := by kernel_rfl
@[go_sem] theorem ti246 : T.ti 246 = some ⟨.map 100 176, 1, 8, .nilm, true⟩ := by kernel_rfl
@[go_sem] theorem ti247 : T.ti 247 = some ⟨.tuple [176, 4], 1, 0, .undef, true⟩ := by kernel_rfl
@[go_sem] theorem ti248 : T.ti 248 = some ⟨.array 8 5, 8, 8, .agg [.int .u8 0, .int .u8 0, .int .u8 0, .int .u8 0, .int .u8 0, .int .u8 0, .int .u8 0, .int .u8 0], true⟩ := by kernel_rfl
@[go_sem] theorem ti249 : T.ti 249 = some ⟨.struct [(0, 248), (8, 100)], 10, 24, .agg [.int .u8 0, .int .u8 0, .int .u8 0, .int .u8 0, .int .u8 0, .int .u8 0, .int .u8 0, .int .u8 0, .int .i64 0, .int .i64 0], true⟩ := by kernel_rfl
@[go_sem] theorem ti250 : T.ti 250 = some ⟨.struct [(0, 248), (8, 100)], 10, 24, .agg [.int .u8 0, .int .u8 0, .int .u8 0, .int .u8 0, .int .u8 0, .int .u8 0, .int .u8 0, .int .u8 0, .int .i64 0, .int .i64 0], true⟩ := by kernel_rfl
@[go_sem] theorem ti251 : T.ti 251 = some ⟨.func, 1, 8, .nilf, true⟩ := by kernel_rfl
@[go_sem] theorem ti252 : T.ti 252 = some ⟨.func, 1, 8, .nilf, true⟩ := by kernel_rfl
@[go_sem] theorem ti253 : T.ti 253 = some ⟨.slice 5, 1, 24, .sl false 0 [], true⟩ := by kernel_rfl
@[go_sem] theorem ti254 : T.ti 254 = some ⟨.func, 1, 8, .nilf, true⟩ := by kernel_rfl
@[go_sem] theorem ti255 : T.ti 255 = some ⟨.func, 1, 8, .nilf, true⟩ := by kernel_rfl
@[go_sem] theorem ti256 : T.ti 256 = some ⟨.func, 1, 8, .nilf, true⟩ := by kernel_rfl
@[go_sem] theorem ti257 : T.ti 257 = some ⟨.func, 1, 8, .nilf, true⟩ := by kernel_rfl
@[go_sem] theorem ti258 : T.ti 258 = some ⟨.func, 1, 8, .nilf, true⟩ := by kernel_rfl
@[go_sem] theorem ti259 : T.ti 259 = some ⟨.func, 1, 8, .nilf, true⟩ := by kernel_rfl
@[go_sem] theorem ti260 : T.ti 260 = some ⟨.func, 1, 8, .nilf, true⟩ := by kernel_rfl
@[go_sem] theorem ti261 : T.ti 261 = some ⟨.func, 1, 8, .nilf, true⟩ := by kernel_rfl
@[go_sem] theorem ti262 : T.ti 262 = some ⟨.tuple [9, 4], 1, 0, .undef, true⟩ := by kernel_rfl
@[go_sem] theorem ti263 : T.ti 263 = some ⟨.func, 1, 8, .nilf, true⟩ := by kernel_rfl
@[go_sem] theorem ti264 : T.ti 264 = some ⟨.ptr 267, 1, 8, .nilp, true⟩ := by kernel_rfl
@[go_sem] theorem ti265 : T.ti 265 = some ⟨.func, 1, 8, .nilf, true⟩ := by kernel_rfl
@[go_sem] theorem ti266 : T.ti 266 = some ⟨.struct [(0, 60), (1, 4)], 2, 32, .agg [.sl false 0 [], .bool false], true⟩ := by kernel_rfl
@[go_sem] theorem ti267 : T.ti 267 = some ⟨.struct [(0, 60), (1, 4)], 2, 32, .agg [.sl false 0 [], .bool false], true⟩ := by kernel_rfl
@[go_sem] theorem ti268 : T.ti 268 = some ⟨.func, 1, 8, .nilf, true⟩ := by kernel_rfl
@[go_sem] theorem ti269 : T.ti 269 = some ⟨.func, 1, 8, .nilf, true⟩ := by kernel_rfl
@[go_sem] theorem ti270 : T.ti 270 = some ⟨.tuple [3, 4], 1, 0, .undef, true⟩ := by kernel_rfl
@[go_sem] theorem ti271 : T.ti 271 = some ⟨.func, 1, 8, .nilf, true⟩ := by kernel_rfl
@[go_sem] theorem ti272 : T.ti 272 = some ⟨.func, 1, 8, .nilf, true⟩ := by kernel_rfl
@[go_sem] theorem ti273 : T.ti 273 = some ⟨.func, 1, 8, .nilf, true⟩ := by kernel_rfl
@[go_sem] theorem ti274 : T.ti 274 = some ⟨.func, 1, 8, .nilf, true⟩ := by kernel_rfl
@[go_sem] theorem ti275 : T.ti 275 = some ⟨.func, 1, 8, .nilf, true⟩ := by kernel_rfl
@[go_sem] theorem ti276 : T.ti 276 = some ⟨.map 9 4, 1, 8, .nilm, true⟩ := by kernel_rfl
@[go_sem] theorem ti277 : T.ti 277 = some ⟨.func, 1, 8, .nilf, true⟩ := by kernel_rfl
@[go_sem] theorem ti278 : T.ti 278 = some ⟨.func, 1, 8, .nilf, true⟩ := by kernel_rfl
@[go_sem] theorem ti279 : T.ti 279 = some ⟨.func, 1, 8, .nilf, true⟩ := by kernel_rfl
@[go_sem] theorem ti280 : T.ti 280 = some ⟨.func, 1, 8, .nilf, true⟩ := by kernel_rfl
@[go_sem] theorem ti281 : T.ti 281 = some ⟨.func, 1, 8, .nilf, true⟩ := by kernel_rfl
@[go_sem] theorem ti282 : T.ti 282 = some ⟨.func, 1, 8, .nilf, true⟩ := by kernel_rfl
@[go_sem] theorem ti283 : T.ti 283 = some ⟨.func, 1, 8, .nilf, true⟩ := by kernel_rfl
@[go_sem] theorem ti284 : T.ti 284 = some ⟨.func, 1, 8, .nilf, true⟩ := by kernel_rfl
@[go_sem] theorem ti285 : T.ti 285 = some ⟨.func, 1, 8, .nilf, true⟩ := by kernel_rfl
@[go_sem] theorem ti286 : T.ti 286 = some ⟨.func, 1, 8, .nilf, true⟩ := by kernel_rfl
@[go_sem] theorem ti287 : T.ti 287 = some ⟨.func, 1, 8, .nilf, true⟩ := by kernel_rfl
@[go_sem] theorem ti288 : T.ti 288 = some ⟨.func, 1, 8, .nilf, true⟩ := by kernel_rfl
@[go_sem] theorem ti289 : T.ti 289 = some ⟨.func, 1, 8, .nilf, true⟩ := by kernel_rfl
@[go_sem] theorem ti290 : T.ti 290 = some ⟨.func, 1, 8, .nilf, true⟩ := by kernel_rfl
@[go_sem] theorem ti291 : T.ti 291 = some ⟨.func, 1, 8, .nilf, true⟩ := by kernel_rfl
@[go_sem] theorem ti292 : T.ti 292 = some ⟨.func, 1, 8, .nilf, true⟩ := by kernel_rfl
@[go_sem] theorem ti293 : T.ti 293 = some ⟨.func, 1, 8, .nilf, true⟩ := by kernel_rfl
@[go_sem] theorem ti294 : T.ti 294 = some ⟨.func, 1, 8, .nilf, true⟩ := by kernel_rfl
@[go_sem] theorem ti295 : T.ti 295 = some ⟨.ptr 297, 1, 8, .nilp, true⟩ := by kernel_rfl
@[go_sem] theorem ti296 : T.ti 296 = some ⟨.struct [(0, 295), (1, 253)], 2, 32, .agg [.nilp, .sl false 0 []], true⟩ := by kernel_rfl
@[go_sem] theorem ti297 : T.ti 297 = some ⟨.struct [(0, 295), (1, 253)], 2, 32, .agg [.nilp, .sl false 0 []], true⟩ := by kernel_rfl
@[go_sem] theorem ti298 : T.ti 298 = some ⟨.func, 1, 8, .nilf, true⟩ := by kernel_rfl
@[go_sem] theorem ti299 : T.ti 299 = some ⟨.iface, 1, 16, .nili, false⟩ := by kernel_rfl
@[go_sem] theorem ti300 : T.ti 300 = some ⟨.iface, 1, 16, .nili, false⟩ := by kernel_rfl
@[go_sem] theorem ti301 : T.ti 301 = some ⟨.tuple [3, 300], 1, 0, .undef, true⟩ := by kernel_rfl
@[go_sem] theorem ti302 : T.ti 302 = some ⟨.func, 1, 8, .nilf, true⟩ := by kernel_rfl
@[go_sem] theorem ti303 : T.ti 303 = some ⟨.func, 1, 8, .nilf, true⟩ := by kernel_rfl
@[go_sem] theorem ti304 : T.ti 304 = some ⟨.func, 1, 8, .nilf, true⟩ := by kernel_rfl
@[go_sem] theorem ti305 : T.ti 305 = some ⟨.func, 1, 8, .nilf, true⟩ := by kernel_rfl
@[go_sem] theorem ti306 : T.ti 306 = some ⟨.func, 1, 8, .nilf, true⟩ := by kernel_rfl
@[go_sem] theorem ti307 : T.ti 307 = some ⟨.func, 1, 8, .nilf, true⟩ := by kernel_rfl
@[go_sem] theorem ti308 : T.ti 308 = some ⟨.int .u64, 1, 8, .int .u64 0, true⟩ := by kernel_rfl
@[go_sem] theorem ti309 : T.ti 309 = some ⟨.func, 1, 8, .nilf, true⟩ := by kernel_rfl
@[go_sem] theorem ti310 : T.ti 310 = some ⟨.float .f64, 1, 8, .flt .f64 0, true⟩ := by kernel_rfl
@[go_sem] theorem ti311 : T.ti 311 = some ⟨.func, 1, 8, .nilf, true⟩ := by kernel_rfl
@[go_sem] theorem ti312 : T.ti 312 = some ⟨.func, 1, 8, .nilf, true⟩ := by kernel_rfl
@[go_sem] theorem ti313 : T.ti 313 = some ⟨.func, 1, 8, .nilf, true⟩ := by kernel_rfl
@[go_sem] theorem ti314 : T.ti 314 = some ⟨.ptr 5, 1, 8, .nilp, true⟩ := by kernel_rfl
@[go_sem] theorem ti315 : T.ti 315 = some ⟨.func, 1, 8, .nilf, true⟩ := by kernel_rfl
@[go_sem] theorem ti316 : T.ti 316 = some ⟨.func, 1, 8, .nilf, true⟩ := by kernel_rfl
@[go_sem] theorem ti317 : T.ti 317 = some ⟨.func, 1, 8, .nilf, true⟩ := by kernel_rfl
@[go_sem] theorem ti318 : T.ti 318 = some ⟨.func, 1, 8, .nilf, true⟩ := by kernel_rfl
@[go_sem] theorem ti319 : T.ti 319 = some ⟨.func, 1, 8, .nilf, true⟩ := by kernel_rfl
@[go_sem] theorem ti320 : T.ti 320 = some ⟨.int .i64, 1, 8, .int .i64 0, true⟩ := by kernel_rfl
@[go_sem] theorem ti321 : T.ti 321 = some ⟨.tuple [3, 320], 1, 0, .undef, true⟩ := by kernel_rfl
@[go_sem] theorem ti322 : T.ti 322 = some ⟨.func, 1, 8, .nilf, true⟩ := by kernel_rfl
@[go_sem] theorem ti323 : T.ti 323 = some ⟨.func, 1, 8, .nilf, true⟩ := by kernel_rfl
@[go_sem] theorem ti324 : T.ti 324 = some ⟨.func, 1, 8, .nilf, true⟩ := by kernel_rfl
@[go_sem] theorem ti325 : T.ti 325 = some ⟨.func, 1, 8, .nilf, true⟩ := by kernel_rfl
@[go_sem] theorem ti326 : T.ti 326 = some ⟨.func, 1, 8, .nilf, true⟩ := by kernel_rfl
@[go_sem] theorem ti327 : T.ti 327 = some ⟨.int .u32, 1, 4, .int .u32 0, true⟩ := by kernel_rfl
@[go_sem] theorem ti328 : T.ti 328 = some ⟨.func, 1, 8, .nilf, true⟩ := by kernel_rfl
@[go_sem] theorem ti329 : T.ti 329 = some ⟨.int .u64, 1, 8, .int .u64 0, true⟩ := by kernel_rfl
@[go_sem] theorem ti330 : T.ti 330 = some ⟨.other, 1, 8, .nilp, true⟩ := by kernel_rfl
@[go_sem] theorem ti331 : T.ti 331 = some ⟨.func, 1, 8, .nilf, true⟩ := by kernel_rfl
@[go_sem] theorem ti332 : T.ti 332 = some ⟨.func, 1, 8, .nilf, true⟩ := by kernel_rfl
@[go_sem] theorem ti333 : T.ti 333 = some ⟨.func, 1, 8, .nilf, true⟩ := by kernel_rfl
@[go_sem] theorem ti334 : T.ti 334 = some ⟨.tuple [21, 3], 1, 0, .undef, true⟩ := by kernel_rfl
@[go_sem] theorem ti335 : T.ti 335 = some ⟨.func, 1, 8, .nilf, true⟩ := by kernel_rfl
@[go_sem] theorem ti336 : T.ti 336 = some ⟨.func, 1, 8, .nilf, true⟩ := by kernel_rfl
@[go_sem] theorem ti337 : T.ti 337 = some ⟨.func, 1, 8, .nilf, true⟩ := by kernel_rfl
@[go_sem] theorem ti338 : T.ti 338 = some ⟨.func, 1, 8, .nilf, true⟩ := by kernel_rfl
@[go_sem] theorem ti339 : T.ti 339 = some ⟨.func, 1, 8, .nilf, true⟩ := by kernel_rfl
@[go_sem] theorem ti340 : T.ti 340 = some ⟨.func, 1, 8, .nilf, true⟩ := by kernel_rfl
@[go_sem] theorem ti341 : T.ti 341 = some ⟨.int .u64, 1, 8, .int .u64 0, true⟩ := by kernel_rfl
@[go_sem] theorem ti342 : T.ti 342 = some ⟨.func, 1, 8, .nilf, true⟩ := by kernel_rfl
@[go_sem] theorem ti343 : T.ti 343 = some ⟨.func, 1, 8, .nilf, true⟩ := by kernel_rfl
@[go_sem] theorem ti344 : T.ti 344 = some ⟨.func, 1, 8, .nilf, true⟩ := by kernel_rfl
@[go_sem] theorem ti345 : T.ti 345 = some ⟨.ptr 3, 1, 8, .nilp, true⟩ := by kernel_rfl
@[go_sem] theorem ti346 : T.ti 346 = some ⟨.func, 1, 8, .nilf, true⟩ := by kernel_rfl
@[go_sem] theorem ti347 : T.ti 347 = some ⟨.func, 1, 8, .nilf, true⟩ := by kernel_rfl
@[go_sem] theorem ti348 : T.ti 348 = some ⟨.func, 1, 8, .nilf, true⟩ := by kernel_rfl
@[go_sem] theorem ti349 : T.ti 349 = some ⟨.tuple [310, 310], 1, 0, .undef, true⟩ := by kernel_rfl
@[go_sem] theorem ti350 : T.ti 350 = some ⟨.func, 1, 8, .nilf, true⟩ := by kernel_rfl
@[go_sem] theorem ti351 : T.ti 351 = some ⟨.array 24 5, 24, 24, .agg [.int .u8 0, .int .u8 0, .int .u8 0, .int .u8 0, .int .u8 0, .int .u8 0, .int .u8 0, .int .u8 0, .int .u8 0, .int .u8 0, .int .u8 0, .int .u8 0, .int .u8 0, .int .u8 0, .int .u8 0, .int .u8 0, .int .u8 0, .int .u8 0, .int .u8 0, .int .u8 0, .int .u8 0, .int .u8 0, .int .u8 0, .int .u8 0], true⟩ := by kernel_rfl
@[go_sem] theorem ti352 : T.ti 352 = some ⟨.func, 1, 8, .nilf, true⟩ := by kernel_rfl
@[go_sem] theorem ti353 : T.ti 353 = some ⟨.tuple [253, 9], 1, 0, .undef, true⟩ := by kernel_rfl
@[go_sem] theorem ti354 : T.ti 354 = some ⟨.func, 1, 8, .nilf, true⟩ := by kernel_rfl
@[go_sem] theorem ti355 : T.ti 355 = some ⟨.func, 1, 8, .nilf, true⟩ := by kernel_rfl
@[go_sem] theorem ti356 : T.ti 356 = some ⟨.func, 1, 8, .nilf, true⟩ := by kernel_rfl
@[go_sem] theorem ti357 : T.ti 357 = some ⟨.ptr 341, 1, 8, .nilp, true⟩ := by kernel_rfl
@[go_sem] theorem ti358 : T.ti 358 = some ⟨.tuple [3, 3], 1, 0, .undef, true⟩ := by kernel_rfl
@[go_sem] theorem ti359 : T.ti 359 = some ⟨.func, 1, 8, .nilf, true⟩ := by kernel_rfl
@[go_sem] theorem ti360 : T.ti 360 = some ⟨.func, 1, 8, .nilf, true⟩ := by kernel_rfl
@[go_sem] theorem ti361 : T.ti 361 = some ⟨.func, 1, 8, .nilf, true⟩ := by kernel_rfl
@[go_sem] theorem ti362 : T.ti 362 = some ⟨.array 20 329, 20, 160, .agg [.int .u64 0, .int .u64 0, .int .u64 0, .int .u64 0, .int .u64 0, .int .u64 0, .int .u64 0, .int .u64 0, .int .u64 0, .int .u64 0, .int .u64 0, .int .u64 0, .int .u64 0, .int .u64 0, .int .u64 0, .int .u64 0, .int .u64 0, .int .u64 0, .int .u64 0, .int .u64 0], true⟩ := by kernel_rfl
@[go_sem] theorem ti363 : T.ti 363 = some ⟨.array 65 5, 65, 65, .agg [.int .u8 0, .int .u8 0, .int .u8 0, .int .u8 0, .int .u8 0, .int .u8 0, .int .u8 0, .int .u8 0, .int .u8 0, .int .u8 0, .int .u8 0, .int .u8 0, .int .u8 0, .int .u8 0, .int .u8 0, .int .u8 0, .int .u8 0, .int .u8 0, .int .u8 0, .int .u8 0, .int .u8 0, .int .u8 0, .int .u8 0, .int .u8 0, .int .u8 0, .int .u8 0, .int .u8 0, .int .u8 0, .int .u8 0, .int .u8 0, .int .u8 0, .int .u8 0, .int .u8 0, .int .u8 0, .int .u8 0, .int .u8 0, .int .u8 0, .int .u8 0, .int .u8 0, .int .u8 0, .int .u8 0, .int .u8 0, .int .u8 0, .int .u8 0, .int .u8 0, .int .u8 0, .int .u8 0, .int .u8 0, .int .u8 0, .int .u8 0, .int .u8 0, .int .u8 0, .int .u8 0, .int .u8 0, .int .u8 0, .int .u8 0, .int .u8 0, .int .u8 0, .int .u8 0, .int .u8 0, .int .u8 0, .int .u8 0, .int .u8 0, .int .u8 0, .int .u8 0], true⟩ := by kernel_rfl
@[go_sem] theorem ti364 : T.ti 364 = some ⟨.array 256 5, 256, 256, .agg [.int .u8 0, .int .u8 0, .int .u8 0, .int .u8 0, .int .u8 0, .int .u8 0, .int .u8 0, .int .u8 0, .int .u8 0, .int .u8 0, .int .u8 0, .int .u8 0, .int .u8 0, .int .u8 0, .int .u8 0, .int .u8 0, .int .u8 0, .int .u8 0, .int .u8 0, .int .u8 0, .int .u8 0, .int .u8 0, .int .u8 0, .int .u8 0, .int .u8 0, .int .u8 0, .int .u8 0, .int .u8 0, .int .u8 0, .int .u8 0, .int .u8 0, .int .u8 0, .int .u8 0, .int .u8 0, .int .u8 0, .int .u8 0, .int .u8 0, .int .u8 0, .int .u8 0, .int .u8 0, .int .u8 0, .int .u8 0, .int .u8 0, .int .u8 0, .int .u8 0, .int .u8 0, .int .u8 0, .int .u8 0, .int .u8 0, .int .u8 0, .int .u8 0, .int .u8 0, .int .u8 0, .int .u8 0, .int .u8 0, .int .u8 0, .int .u8 0, .int .u8 0, .int .u8 0, .int .u8 0, .int .u8 0, .int .u8 0, .int .u8 0, .int .u8 0, .int .u8 0, .int .u8 0, .int .u8 0, .int .u8 0, .int .u8 0, .int .u8 0, .int .u8 0, .int .u8 0, .int .u8 0, .int .u8 0, .int .u8 0, .int .u8 0, .int .u8 0, .int .u8 0, .int .u8 0, .int .u8 0, .int .u8 0, .int .u8 0, .int .u8 0, .int .u8 0, .int .u8 0, .int .u8 0, .int .u8 0, .int .u8 0, .int .u8 0, .int .u8 0, .int .u8 0, .int .u8 0, .int .u8 0, .int .u8 0, .int .u8 0, .int .u8 0, .int .u8 0, .int .u8 0, .int .u8 0, .int .u8 0, .int .u8 0, .int .u8 0, .int .u8 0, .int .u8 0, .int .u8 0, .int .u8 0, .int .u8 0, .int .u8 0, .int .u8 0, .int .u8 0, .int .u8 0, .int .u8 0, .int .u8 0, .int .u8 0, .int .u8 0, .int .u8 0, .int .u8 0, .int .u8 0, .int .u8 0, .int .u8 0, .int .u8 0, .int .u8 0, .int .u8 0, .int .u8 0, .int .u8 0, .int .u8 0, .int .u8 0, .int .u8 0, .int .u8 0, .int .u8 0, .int .u8 0, .int .u8 0, .int .u8 0, .int .u8 0, .int .u8 0, .int .u8 0, .int .u8 0, .int .u8 0, .int .u8 0, .int .u8 0, .int .u8 0, .int .u8 0, .int .u8 0, .int .u8 0, .int .u8 0, .int .u8 0, .int .u8 0, .int .u8 0, .int .u8 0, .int .u8 0, .int .u8 0, .int .u8 0, .int .u8 0, .int .u8 0, .int .u8 0, .int .u8 0, .int .u8 0, .int .u8 0, .int .u8 0, .int .u8 0, .int .u8 0, .int .u8 0, .int .u8 0, .int .u8 0, .int .u8 0, .int .u8 0, .int .u8 0, .int .u8 0, .int .u8 0, .int .u8 0, .int .u8 0, .int .u8 0, .int .u8 0, .int .u8 0, .int .u8 0, .int .u8 0, .int .u8 0, .int .u8 0, .int .u8 0, .int .u8 0, .int .u8 0, .int .u8 0, .int .u8 0, .int .u8 0, .int .u8 0, .int .u8 0, .int .u8 0, .int .u8 0, .int .u8 0, .int .u8 0, .int .u8 0, .int .u8 0, .int .u8 0, .int .u8 0, .int .u8 0, .int .u8 0, .int .u8 0, .int .u8 0, .int .u8 0, .int .u8 0, .int .u8 0, .int .u8 0, .int .u8 0, .int .u8 0, .int .u8 0, .int .u8 0, .int .u8 0, .int .u8 0, .int .u8 0, .int .u8 0, .int .u8 0, .int .u8 0, .int .u8 0, .int .u8 0, .int .u8 0, .int .u8 0, .int .u8 0, .int .u8 0, .int .u8 0, .int .u8 0, .int .u8 0, .int .u8 0, .int .u8 0, .int .u8 0, .int .u8 0, .int .u8 0, .int .u8 0, .int .u8 0, .int .u8 0, .int .u8 0, .int .u8 0, .int .u8 0, .int .u8 0, .int .u8 0, .int .u8 0, .int .u8 0, .int .u8 0, .int .u8 0, .int .u8 0, .int .u8 0, .int .u8 0, .int .u8 0, .int .u8 0, .int .u8 0, .int .u8 0, .int .u8 0, .int .u8 0, .int .u8 0, .int .u8 0, .int .u8 0, .int .u8 0, .int .u8 0, .int .u8 0, .int .u8 0, .int .u8 0, .int .u8 0], true⟩ := by kernel_rfl
@[go_sem] theorem ti365 : T.ti 365 = some ⟨.struct [(0, 5), (1, 5)], 2, 2, .agg [.int .u8 0, .int .u8 0], true⟩ := by kernel_rfl
@[go_sem] theorem ti366 : T.ti 366 = some ⟨.struct [(0, 5), (1, 5)], 2, 2, .agg [.int .u8 0, .int .u8 0], true⟩ := by kernel_rfl
@[go_sem] theorem ti367 : T.ti 367 = some ⟨.array 16 366, 32, 32, .agg [.int .u8 0, .int .u8 0, .int .u8 0, .int .u8 0, .int .u8 0, .int .u8 0, .int .u8 0, .int .u8 0, .int .u8 0, .int .u8 0, .int .u8 0, .int .u8 0, .int .u8 0, .int .u8 0, .int .u8 0, .int .u8 0, .int .u8 0, .int .u8 0, .int .u8 0, .int .u8 0, .int .u8 0, .int .u8 0, .int .u8 0, .int .u8 0, .int .u8 0, .int .u8 0, .int .u8 0, .int .u8 0, .int .u8 0, .int .u8 0, .int .u8 0, .int .u8 0], true⟩ := by kernel_rfl
@[go_sem] theorem ti368 : T.ti 368 = some ⟨.tuple [327, 327], 1, 0, .undef, true⟩ := by kernel_rfl
@[go_sem] theorem ti369 : T.ti 369 = some ⟨.func, 1, 8, .nilf, true⟩ := by kernel_rfl
@[go_sem] theorem ti370 : T.ti 370 = some ⟨.func, 1, 8, .nilf, true⟩ := by kernel_rfl
@[go_sem] theorem ti371 : T.ti 371 = some ⟨.array 32 5, 32, 32, .agg [.int .u8 0, .int .u8 0, .int .u8 0, .int .u8 0, .int .u8 0, .int .u8 0, .int .u8 0, .int .u8 0, .int .u8 0, .int .u8 0, .int .u8 0, .int .u8 0, .int .u8 0, .int .u8 0, .int .u8 0, .int .u8 0, .int .u8 0, .int .u8 0, .int .u8 0, .int .u8 0, .int .u8 0, .int .u8 0, .int .u8 0, .int .u8 0, .int .u8 0, .int .u8 0, .int .u8 0, .int .u8 0, .int .u8 0, .int .u8 0, .int .u8 0, .int .u8 0], true⟩ := by kernel_rfl
@[go_sem] theorem ti372 : T.ti 372 = some ⟨.array 64 5, 64, 64, .agg [.int .u8 0, .int .u8 0, .int .u8 0, .int .u8 0, .int .u8 0, .int .u8 0, .int .u8 0, .int .u8 0, .int .u8 0, .int .u8 0, .int .u8 0, .int .u8 0, .int .u8 0, .int .u8 0, .int .u8 0, .int .u8 0, .int .u8 0, .int .u8 0, .int .u8 0, .int .u8 0, .int .u8 0, .int .u8 0, .int .u8 0, .int .u8 0, .int .u8 0, .int .u8 0, .int .u8 0, .int .u8 0, .int .u8 0, .int .u8 0, .int .u8 0, .int .u8 0, .int .u8 0, .int .u8 0, .int .u8 0, .int .u8 0, .int .u8 0, .int .u8 0, .int .u8 0, .int .u8 0, .int .u8 0, .int .u8 0, .int .u8 0, .int .u8 0, .int .u8 0, .int .u8 0, .int .u8 0, .int .u8 0, .int .u8 0, .int .u8 0, .int .u8 0, .int .u8 0, .int .u8 0, .int .u8 0, .int .u8 0, .int .u8 0, .int .u8 0, .int .u8 0, .int .u8 0, .int .u8 0, .int .u8 0, .int .u8 0, .int .u8 0, .int .u8 0], true⟩ := by kernel_rfl
@[go_sem] theorem ti373 : T.ti 373 = some ⟨.struct [(0, 17), (1, 17), (2, 17), (3, 9)], 4, 40, .agg [.nilp, .nilp, .nilp, .str []], false⟩ := by kernel_rfl
@[go_sem] theorem ti374 : T.ti 374 = some ⟨.struct [(0, 17), (1, 17), (2, 17), (3, 9)], 4, 40, .agg [.nilp, .nilp, .nilp, .str []], false⟩ := by kernel_rfl
@[go_sem] theorem ti375 : T.ti 375 = some ⟨.array 0 16, 0, 0, .agg [], true⟩ := by kernel_rfl
@[go_sem] theorem ti376 : T.ti 376 = some ⟨.struct [(0, 375)], 0, 0, .agg [], false⟩ := by kernel_rfl
@[go_sem] theorem ti377 : T.ti 377 = some ⟨.struct [(0, 375)], 0, 0, .agg [], false⟩ := by kernel_rfl
@[go_sem] theorem ti378 : T.ti 378 = some ⟨.int .u8, 1, 1, .int .u8 0, true⟩ := by kernel_rfl
@[go_sem] theorem ti379 : T.ti 379 = some ⟨.int .u8, 1, 1, .int .u8 0, true⟩ := by kernel_rfl
@[go_sem] theorem ti380 : T.ti 380 = some ⟨.func, 1, 8, .nilf, true⟩ := by kernel_rfl
@[go_sem] theorem ti381 : T.ti 381 = some ⟨.int .i32, 1, 4, .int .i32 0, true⟩ := by kernel_rfl
@[go_sem] theorem ti382 : T.ti 382 = some ⟨.int .i32, 1, 4, .int .i32 0, true⟩ := by kernel_rfl
@[go_sem] theorem ti383 : T.ti 383 = some ⟨.struct [(0, 12), (1, 12), (2, 327), (3, 378), (4, 5), (5, 5), (6, 379), (7, 380), (8, 314), (9, 381), (10, 382)], 11, 48, .agg [.int .u64 0, .int .u64 0, .int .u32 0, .int .u8 0, .int .u8 0, .int .u8 0, .int .u8 0, .nilf, .nilp, .int .i32 0, .int .i32 0], false⟩ := by kernel_rfl
@[go_sem] theorem ti384 : T.ti 384 = some ⟨.struct [(0, 12), (1, 12), (2, 327), (3, 378), (4, 5), (5, 5), (6, 379), (7, 380), (8, 314), (9, 381), (10, 382)], 11, 48, .agg [.int .u64 0, .int .u64 0, .int .u32 0, .int .u8 0, .int .u8 0, .int .u8 0, .int .u8 0, .nilf, .nilp, .int .i32 0, .int .i32 0], false⟩ := by kernel_rfl
@[go_sem] theorem glob0 : T.glob 0 = some [.str [110, 111, 110, 101], .fn 327 [], .str [111, 110, 101], .fn 328 [], .str [116, 119, 111], .fn 329 [], .str [116, 104, 114, 101, 101], .fn 330 []] := by kernel_rfl
end Go.Den.FaT
