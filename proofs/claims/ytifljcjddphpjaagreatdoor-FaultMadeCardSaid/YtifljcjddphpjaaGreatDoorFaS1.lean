import Derived.Test.YtifljcjddphpjaaGreatDoorFaX1
import Derived.Test.YtifljcjddphpjaaGreatDoorZR
set_option linter.all false
set_option maxHeartbeats 8000000
set_option maxRecDepth 100000
noncomputable section
namespace Go.Den.FaU
open Go Go.Proofs Go.Den
abbrev RR (c : Code) (os : List SO) : Prop := RunR T c os
abbrev RD (c : Code) (f : Nat) (os : List SO) (ps : List (Nat × Nat)) : Prop := RunD T c f os ps
abbrev RI (r c : Code) : Prop := RunIc T r c
@[go_sem] theorem fr11 : Fct T 11 false none true ∧ Res1 T 11 4 := by refine ⟨⟨?_, ?_, ?_⟩, res1 T (F := Tryz.f11) ?_ ?_⟩ <;> kernel_rfl
@[go_sem] theorem fr16 : Fct T 16 false (some (den2 FaT.T 16)) false ∧ Res1 T 16 4 := by refine ⟨⟨?_, ?_, ?_⟩, res1 T (F := Tryz.f16) ?_ ?_⟩ <;> kernel_rfl
@[go_sem] theorem fr17 : Fct T 17 false (some (den2 FaT.T 17)) false ∧ Res2 T 17 28 29 [] := by refine ⟨⟨?_, ?_, ?_⟩, res2 T (F := Tryz.f17) ?_ ?_⟩ <;> kernel_rfl
@[go_sem] theorem fr18 : Fct T 18 false (some (den2 FaT.T 18)) false ∧ Res1 T 18 34 := by refine ⟨⟨?_, ?_, ?_⟩, res1 T (F := Tryz.f18) ?_ ?_⟩ <;> kernel_rfl
@[go_sem] theorem fr19 : Fct T 19 false (some (den2 FaT.T 19)) false ∧ Res2 T 19 22 29 [] := by refine ⟨⟨?_, ?_, ?_⟩, res2 T (F := Tryz.f19) ?_ ?_⟩ <;> kernel_rfl
@[go_sem] theorem fr20 : Fct T 20 false (some (den2 FaT.T 20)) false ∧ Res1 T 20 3 := by refine ⟨⟨?_, ?_, ?_⟩, res1 T (F := Tryz.f20) ?_ ?_⟩ <;> kernel_rfl
@[go_sem] theorem fr27 : Fct T 27 false (some (den2 FaT.T 27)) false ∧ Res1 T 27 28 := by refine ⟨⟨?_, ?_, ?_⟩, res1 T (F := Tryz.f27) ?_ ?_⟩ <;> kernel_rfl
@[go_sem] theorem fr29 : Fct T 29 false (some (den2 FaT.T 29)) false ∧ Res2 T 29 4 29 [] := by refine ⟨⟨?_, ?_, ?_⟩, res2 T (F := Tryz.f29) ?_ ?_⟩ <;> kernel_rfl
@[go_sem] theorem fr86 : Fct T 86 false (some (den2 FaT.T 86)) false ∧ Res1 T 86 9 := by refine ⟨⟨?_, ?_, ?_⟩, res1 T (F := Tryz.f86) ?_ ?_⟩ <;> kernel_rfl
@[go_sem] theorem fr87 : Fct T 87 false (some (den2 FaT.T 87)) false ∧ Res1 T 87 142 := by refine ⟨⟨?_, ?_, ?_⟩, res1 T (F := Tryz.f87) ?_ ?_⟩ <;> kernel_rfl
@[go_sem] theorem fr88 : Fct T 88 true none true ∧ Res1 T 88 25 := by refine ⟨⟨?_, ?_, ?_⟩, res1 T (F := Tryz.f88) ?_ ?_⟩ <;> kernel_rfl
@[go_sem] theorem fr89 : Fct T 89 false (some (den2 FaT.T 89)) false ∧ Res1 T 89 4 := by refine ⟨⟨?_, ?_, ?_⟩, res1 T (F := Tryz.f89) ?_ ?_⟩ <;> kernel_rfl
def r11_0 := nv 2 Tryz.f11
def r11_1 := nv 12 Tryz.f11
def r11_2 := nv 52 Tryz.f11
def r11_3 := nv 14 Tryz.f11
def r11_4 := nv 60 Tryz.f11
def b11_0 := nv 244 Tryz.f11
def r11_5 := nv 488 Tryz.f11
def r11_6 := nv 7832 Tryz.f11
def r11_7 := nv 31332 Tryz.f11
def b11_1 := nv 125332 Tryz.f11
def r11_8 := nv 250664 Tryz.f11
def r11_9 := nv 4010648 Tryz.f11
def r11_10 := nv 4010649 Tryz.f11
def r11_11 := nv 1002663 Tryz.f11
def r11_12 := nv 15667 Tryz.f11
def r11_13 := nv 1959 Tryz.f11
def r11_14 := nv 62 Tryz.f11
def r11_15 := nv 126 Tryz.f11
def r11_16 := nv 508 Tryz.f11
def b11_2 := nv 2036 Tryz.f11
def r11_17 := nv 4072 Tryz.f11
def r11_18 := nv 65176 Tryz.f11
def r11_19 := nv 130354 Tryz.f11
def r11_20 := nv 521420 Tryz.f11
def b11_3 := nv 2085684 Tryz.f11
def r11_21 := nv 4171368 Tryz.f11
def r11_22 := nv 66741912 Tryz.f11
def r11_23 := nv 133483826 Tryz.f11
def r11_24 := nv 266967654 Tryz.f11
def r11_25 := nv 533935310 Tryz.f11
def r11_26 := nv 1067870622 Tryz.f11
def r11_27 := nv 2135741246 Tryz.f11
def r11_28 := nv 2135741247 Tryz.f11
def r11_29 := nv 16685479 Tryz.f11
def r11_30 := nv 521422 Tryz.f11
def r11_31 := nv 521423 Tryz.f11
def r11_32 := nv 16295 Tryz.f11
def r11_33 := nv 1020 Tryz.f11
def r11_34 := nv 4084 Tryz.f11
def r11_35 := nv 1022 Tryz.f11
def r11_36 := nv 2046 Tryz.f11
def r11_37 := nv 4094 Tryz.f11
def r11_38 := nv 8190 Tryz.f11
def r11_39 := nv 32764 Tryz.f11
def r11_40 := nv 131060 Tryz.f11
def r11_41 := nv 65532 Tryz.f11
def b11_4 := nv 262132 Tryz.f11
def r11_42 := nv 524264 Tryz.f11
def r11_43 := nv 8388248 Tryz.f11
def r11_44 := nv 16776498 Tryz.f11
def r11_45 := nv 67105996 Tryz.f11
def r11_46 := nv 2097063 Tryz.f11
def r11_47 := nv 65534 Tryz.f11
def r11_48 := nv 262140 Tryz.f11
def b11_5 := nv 1048564 Tryz.f11
def r11_49 := nv 2097128 Tryz.f11
def r11_50 := nv 33554072 Tryz.f11
def r11_51 := nv 33554073 Tryz.f11
def r11_52 := nv 8388519 Tryz.f11
def r11_53 := nv 524284 Tryz.f11
def b11_6 := nv 2097140 Tryz.f11
def r11_54 := nv 4194280 Tryz.f11
def r11_55 := nv 67108504 Tryz.f11
def r11_56 := nv 67108505 Tryz.f11
def r11_57 := nv 16777127 Tryz.f11
def r11_58 := nv 524286 Tryz.f11
def r11_59 := nv 1048574 Tryz.f11
def r11_60 := nv 2097150 Tryz.f11
def r11_61 := nv 8388604 Tryz.f11
def r11_62 := nv 33554420 Tryz.f11
def r11_63 := nv 16777212 Tryz.f11
def b11_7 := nv 67108852 Tryz.f11
def r11_64 := nv 134217704 Tryz.f11
def r11_65 := nv 2147483288 Tryz.f11
def r11_66 := nv 4294966578 Tryz.f11
def r11_67 := nv 17179866316 Tryz.f11
def r11_68 := nv 536870823 Tryz.f11
def r11_69 := nv 16777214 Tryz.f11
theorem ent11 : Ent T 11 338 (.seq (r11_0) (.seq (.seq (r11_1) (.cond (.tmp 52) (.seq (r11_2) (.ret)) (.skip))) (.seq (r11_3) (.seq (.seq (r11_4) (.block 0 (.loop b11_0))) (.seq (r11_14) (.seq (r11_15) (.seq (.seq (r11_16) (.block 4 (.loop b11_2))) (.seq (.seq (r11_33) (.cond (.tmp 156) (.seq (r11_34) (.ret)) (.skip))) (.seq (r11_35) (.seq (r11_36) (.seq (r11_37) (.seq (r11_38) (.seq (.seq (r11_39) (.cond (.tmp 218) (.seq (r11_40) (.ret)) (.skip))) (.seq (.seq (r11_41) (.block 8 (.loop b11_4))) (.seq (r11_47) (.seq (.seq (r11_48) (.block 10 (.loop b11_5))) (.seq (.seq (r11_53) (.block 12 (.loop b11_6))) (.seq (r11_58) (.seq (r11_59) (.seq (r11_60) (.seq (.seq (r11_61) (.cond (.tmp 319) (.seq (r11_62) (.ret)) (.skip))) (.seq (.seq (r11_63) (.block 14 (.loop b11_7))) (.seq (r11_69) (.ret)))))))))))))))))))))))) := entI T (F := Tryz.f11) (by kernel_rfl) (by kernel_rfl) (by kernel_rfl)
@[go_sem ↓] theorem run11 : RR r11_0 [oo 6 (.assign (.const (.bool false)))] ∧ RR r11_1 [oo 40 (oM 0), oo 41 (oN 40 134), oo 42 (oC .lss 3 41 1), oo 43 (oM 42), of 44 (oM 0) 43, of 45 (oN 44 134) 43, of 46 (oC .gtr 3 45 4) 43, oo 47 (.pick (.tmp 43) (.const (.bool true)) (.tmp 46)), oo 48 (oM 47), of 49 (oM 1) 48, of 50 (oN 49 135) 48, of 51 (oC .gtr 3 50 3) 48, oo 52 (.pick (.tmp 48) (.const (.bool true)) (.tmp 51))] ∧ RR r11_2 [oo 53 (.call ⟨.value (.func 16), #[], #[]⟩), oo 6 (oG 53)] ∧ RR r11_3 [oo 54 (.build 25 #[]), oo 7 (.alloc 25), ow 25 7 54] ∧ RR r11_4 [oo 55 (.move (.const (.int .i64 0)))] ∧ RR r11_5 [oo 56 (oC .lss 3 55 7)] ∧ RR r11_6 [oo 8 on] ∧ RR r11_7 [oo 57 (oM 0), oo 58 (oN 57 134), oo 59 (.move (.const (.int .i64 0)))] ∧ RR r11_8 [oo 60 (oB .lss 3 59 58)] ∧ RR r11_9 [oo 61 (oI 134 57 59), oo 62 (oL 136 61), oo 10 (oG 62)] ∧ RR r11_10 [oo 63 (oM 8), oo 64 (oM 10), oo 65 (.convert 136 3 (.tmp 64)), oo 66 (.binOp .add 3 (.const (.int .i64 1000)) (.tmp 65) 3), oo 67 (oS 28 66), oo 68 (oA 63 67 28), oo 8 (oG 68)] ∧ RR r11_11 [oo 69 (oC .add 3 59 1), oo 59 (oM 69)] ∧ RI b11_1 (.seq (r11_8) (.seq (.cond (.tmp 60) (.skip) (.exit 2)) (.seq (.block 3 (.seq (r11_9) (r11_10))) (r11_11)))) ∧ KeepS T 11 b11_1 [0, 1, 2, 7, 8, 55, 57, 58, 59] ∧ RR r11_12 [oo 70 (oF 25 7 0), oo 71 (oL 22 70), oo 72 (oM 8), oo 73 (oS 22 72), oo 74 (oA 71 73 22), oo 75 (oF 25 7 0), ow 22 75 74] ∧ RR r11_13 [oo 76 (oC .add 3 55 1), oo 55 (oM 76)] ∧ RI b11_0 (.seq (r11_5) (.seq (.cond (.tmp 56) (.skip) (.exit 0)) (.seq (.block 1 (.seq (r11_6) (.seq (.seq (r11_7) (.block 2 (.loop b11_1))) (r11_12)))) (r11_13)))) ∧ KeepS T 11 b11_0 [0, 1, 2, 7, 55] ∧ RR r11_14 [oo 11 on] ∧ RR r11_15 [oo 12 (.assign (.const (.bool false)))] ∧ RR r11_16 [oo 77 (oM 1), oo 78 (oN 77 135), oo 79 (.move (.const (.int .i64 0)))] ∧ RR r11_17 [oo 80 (oB .lss 3 79 78)] ∧ RR r11_18 [oo 81 (oM 79), oo 82 (oI 135 77 79), oo 83 (oL 137 82), oo 14 (.alloc 137), oo 13 (oG 81), ow 137 14 83] ∧ RR r11_19 [oo 84 (oM 13), oo 85 (o1 86 84 3), oo 86 (.binOp .add 9 (.const (.string ⟨#[99]⟩)) (.tmp 85) 9), oo 87 (oM 13), oo 88 (.binOp .mul 3 (.const (.int .i64 2)) (.tmp 87) 3), oo 89 (oC .add 3 88 1), oo 90 (.build 140 #[(0, .tmp 86), (1, .tmp 89)]), oo 15 (.alloc 140), ow 140 15 90] ∧ RR r11_20 [oo 91 (oM 0), oo 92 (oN 91 134), oo 93 (.move (.const (.int .i64 0)))] ∧ RR r11_21 [oo 94 (oB .lss 3 93 92)] ∧ RR r11_22 [oo 95 (oM 93), oo 16 (oG 95)] ∧ RR r11_23 [oo 96 (.indexAddr 137 (.tmp 14) (.const (.int .i64 0))), oo 97 (oL 5 96), oo 98 (.convert 5 3 (.tmp 97)), oo 99 (oM 16), oo 100 (oB .add 3 98 99), oo 101 (oC .rem 3 100 100), oo 17 (oG 101)] ∧ RR r11_24 [oo 102 (oM 17), oo 103 (.indexAddr 137 (.tmp 14) (.const (.int .i64 1))), oo 104 (oL 5 103), oo 105 (.convert 5 3 (.tmp 104)), oo 106 (oC .rem 3 105 50), oo 107 (oB .add 3 102 106), oo 18 (oG 107)] ∧ RR r11_25 [oo 108 (oM 17), oo 109 (oM 2), oo 110 (.convert 5 3 (.tmp 109)), oo 111 (oM 18), oo 112 (oM 17), oo 113 (oB .sub 3 111 112), oo 114 (oC .add 3 113 1), oo 115 (oB .rem 3 110 114), oo 116 (oB .add 3 108 115), oo 19 (oG 116)] ∧ RR r11_26 [oo 117 (oF 25 7 0), oo 118 (oL 22 117), oo 119 (oF 140 15 1), oo 120 (oL 3 119), oo 121 (oI 22 118 120), oo 122 (oL 28 121), oo 123 (oM 16), oo 124 (oI 28 122 123), oo 125 (oL 3 124), oo 126 (oM 19), oo 127 (oB .sub 3 125 126), oo 128 (oI 28 122 123), ow 3 128 127] ∧ RD r11_27 11 [oo 129 (oF 140 15 2), oo 130 (oL 72 129), oo 131 (oM 17), oo 132 (oM 18), oo 133 (o2 87 131 132 3 3), oo 134 (oS 72 133), oo 135 (oA 130 134 72), oo 136 (oF 140 15 2), ow 72 136 135] [(0, 2), (1, 2), (0, 3), (1, 3), (2, 3), (0, 4), (1, 4), (0, 5), (1, 5)] ∧ RR r11_28 [oo 137 (oM 12), oo 138 (oM 137), of 139 (oM 17) 138, of 140 (oC .gtr 3 139 0) 138, oo 141 (.pick (.tmp 138) (.const (.bool true)) (.tmp 140)), oo 12 (oG 141)] ∧ RR r11_29 [oo 142 (oC .add 3 93 1), oo 93 (oM 142)] ∧ RI b11_3 (.seq (r11_21) (.seq (.cond (.tmp 94) (.skip) (.exit 6)) (.seq (.block 7 (.seq (r11_22) (.seq (r11_23) (.seq (r11_24) (.seq (r11_25) (.seq (r11_26) (.seq (r11_27) (r11_28)))))))) (r11_29)))) ∧ KeepS T 11 b11_3 [0, 2, 7, 11, 12, 13, 14, 15, 77, 78, 79, 92, 93] ∧ RR r11_30 [oo 143 (oF 25 7 2), oo 144 (oL 23 143), oo 145 (oL 140 15), oo 146 (oS 23 145), oo 147 (oA 144 146 23), oo 148 (oF 25 7 2), ow 23 148 147] ∧ RR r11_31 [oo 149 (oM 11), oo 150 (oM 13), oo 151 (oS 28 150), oo 152 (oA 149 151 28), oo 11 (oG 152)] ∧ RR r11_32 [oo 153 (oC .add 3 79 1), oo 79 (oM 153)] ∧ RI b11_2 (.seq (r11_17) (.seq (.cond (.tmp 80) (.skip) (.exit 4)) (.seq (.block 5 (.seq (r11_18) (.seq (r11_19) (.seq (.seq (r11_20) (.block 6 (.loop b11_3))) (.seq (r11_30) (r11_31)))))) (r11_32)))) ∧ KeepS T 11 b11_2 [0, 2, 7, 11, 12, 77, 78, 79] ∧ RR r11_33 [oo 154 (oL 25 7), oo 155 (o1 20 154 25), oo 156 (oC .neq 3 155 0)] ∧ RR r11_34 [oo 6 (.assign (.const (.bool false)))] ∧ RR r11_35 [oo 158 (oL 25 7), oo 159 (o1 18 158 25), oo 160 (o1 17 159 34), oo 157 (oM 160), oo 161 (oX 157 0), oo 162 (oX 157 1), oo 20 (oG 161), oo 21 (oG 162)] ∧ RR r11_36 [oo 164 (oL 25 7), oo 165 (o1 18 164 25), oo 166 (oM 11), oo 167 (o1 27 166 28), oo 168 (o2 29 165 167 34 28), oo 163 (oM 168), oo 169 (oX 163 0), oo 170 (oX 163 1), oo 22 (oG 169), oo 23 (oG 170)] ∧ RR r11_37 [oo 172 (oL 25 7), oo 173 (o1 18 172 25), oo 174 (.call ⟨.value (.func 29), #[.tmp 173, .const (.slice none 0 0)], #[34, 28]⟩), oo 171 (oM 174), oo 175 (oX 171 0), oo 176 (oX 171 1), oo 24 (oG 175), oo 25 (oG 176)] ∧ RR r11_38 [oo 178 (oL 25 7), oo 179 (o1 18 178 25), oo 180 (o1 19 179 34), oo 177 (oM 180), oo 181 (oX 177 0), oo 182 (oX 177 1), oo 26 (oG 181), oo 27 (oG 182)] ∧ RR r11_39 [oo 183 (oM 21), oo 184 (oC .neq 29 183 0), oo 185 (oM 184), of 186 (oM 23) 185, of 187 (oC .neq 29 186 0) 185, oo 188 (.pick (.tmp 185) (.const (.bool true)) (.tmp 187)), oo 189 (oM 188), of 190 (oM 25) 189, of 191 (oC .neq 29 190 0) 189, oo 192 (.pick (.tmp 189) (.const (.bool true)) (.tmp 191)), oo 193 (oM 192), of 194 (oM 27) 193, of 195 (oC .neq 29 194 0) 193, oo 196 (.pick (.tmp 193) (.const (.bool true)) (.tmp 195)), oo 197 (oM 196), of 198 (oM 22) 197, of 199 (.unOp .not 4 (.tmp 198)) 197, oo 200 (.pick (.tmp 197) (.const (.bool true)) (.tmp 199)), oo 201 (oM 200), of 202 (oM 12) 201, of 203 (oM 202) 201, ot 204 (oM 24) 203, of 205 (.pick (.tmp 203) (.tmp 204) (.const (.bool false))) 201, oo 206 (.pick (.tmp 201) (.const (.bool true)) (.tmp 205)), oo 207 (oM 206), of 208 (oM 20) 207, of 209 (oN 208 28) 207, of 210 (oM 0) 207, of 211 (oN 210 134) 207, of 212 (oB .neq 3 209 211) 207, oo 213 (.pick (.tmp 207) (.const (.bool true)) (.tmp 212)), oo 214 (oM 213), of 215 (oM 26) 214, of 216 (oN 215 22) 214, of 217 (oC .neq 3 216 7) 214, oo 218 (.pick (.tmp 214) (.const (.bool true)) (.tmp 217))] ∧ RR r11_40 [oo 6 (.assign (.const (.bool false)))] ∧ RR r11_41 [oo 219 (oM 0), oo 220 (oN 219 134), oo 221 (.move (.const (.int .i64 0)))] ∧ RR r11_42 [oo 222 (oB .lss 3 221 220)] ∧ RR r11_43 [oo 223 (oM 221), oo 224 (oI 134 219 221), oo 225 (oL 136 224), oo 28 (oG 223), oo 29 (oG 225)] ∧ RR r11_44 [oo 226 (oM 20), oo 227 (oM 28), oo 228 (oI 28 226 227), oo 229 (oL 3 228), oo 230 (oM 29), oo 231 (.convert 136 3 (.tmp 230)), oo 232 (.binOp .add 3 (.const (.int .i64 1000)) (.tmp 231) 3), oo 233 (oB .neq 3 229 232)] ∧ RR r11_45 [oo 6 (.assign (.const (.bool false)))] ∧ RR r11_46 [oo 234 (oC .add 3 221 1), oo 221 (oM 234)] ∧ RI b11_4 (.seq (r11_42) (.seq (.cond (.tmp 222) (.skip) (.exit 8)) (.seq (.block 9 (.seq (r11_43) (.seq (r11_44) (.cond (.tmp 233) (.seq (r11_45) (.ret)) (.skip))))) (r11_46)))) ∧ KeepS T 11 b11_4 [7, 11, 20, 26, 219, 220, 221] ∧ RR r11_47 [oo 235 (oL 25 7), oo 236 (o1 88 235 25), oo 30 (.alloc 25), ow 25 30 236] ∧ RR r11_48 [oo 237 (oF 25 30 0), oo 238 (oL 22 237), oo 239 (oN 238 22), oo 240 (.move (.const (.int .i64 0)))] ∧ RR r11_49 [oo 241 (oB .lss 3 240 239)] ∧ RR r11_50 [oo 242 (oM 240), oo 31 (oG 242)] ∧ RD r11_51 11 [oo 243 (oF 25 30 0), oo 244 (oL 22 243), oo 245 (oM 31), oo 246 (.buildSlice 28 0 #[]), oo 247 (oF 25 7 0), oo 248 (oL 22 247), oo 249 (oM 31), oo 250 (.binOp .sub 3 (.const (.int .i64 6)) (.tmp 249) 3), oo 251 (oI 22 248 250), oo 252 (oL 28 251), oo 253 (oA 246 252 28), oo 254 (oI 22 244 245), ow 28 254 253] [(0, 2), (1, 2), (0, 3), (1, 3), (2, 3), (0, 4), (1, 4), (2, 4), (3, 4), (0, 5), (1, 5), (2, 5), (3, 5), (0, 6), (1, 6), (2, 6), (3, 6), (4, 6), (5, 6), (0, 7), (1, 7), (2, 7), (3, 7), (4, 7), (5, 7), (0, 8), (1, 8), (2, 8), (3, 8), (0, 9), (1, 9), (2, 9), (3, 9), (0, 10), (1, 10), (2, 10)] ∧ RR r11_52 [oo 255 (oC .add 3 240 1), oo 240 (oM 255)] ∧ RI b11_5 (.seq (r11_49) (.seq (.cond (.tmp 241) (.skip) (.exit 10)) (.seq (.block 11 (.seq (r11_50) (r11_51))) (r11_52)))) ∧ KeepS T 11 b11_5 [7, 11, 20, 26, 30, 239, 240] ∧ RR r11_53 [oo 256 (oF 25 30 2), oo 257 (oL 23 256), oo 258 (oN 257 23), oo 259 (.move (.const (.int .i64 0)))] ∧ RR r11_54 [oo 260 (oB .lss 3 259 258)] ∧ RR r11_55 [oo 261 (oM 259), oo 32 (oG 261)] ∧ RD r11_56 11 [oo 262 (oF 25 30 2), oo 263 (oL 23 262), oo 264 (oM 32), oo 265 (oF 25 30 2), oo 266 (oL 23 265), oo 267 (oM 32), oo 268 (oI 23 266 267), oo 269 (oF 140 268 1), oo 270 (oL 3 269), oo 271 (.binOp .sub 3 (.const (.int .i64 6)) (.tmp 270) 3), oo 272 (oI 23 263 264), oo 273 (oF 140 272 1), ow 3 273 271] [(0, 2), (1, 2), (0, 3), (1, 3), (2, 3), (0, 4), (1, 4), (2, 4), (0, 5), (1, 5), (2, 5), (3, 5), (4, 5), (0, 6), (1, 6), (2, 6), (0, 7), (1, 7), (2, 7), (0, 8), (1, 8), (2, 8), (0, 9), (1, 9), (2, 9)] ∧ RR r11_57 [oo 274 (oC .add 3 259 1), oo 259 (oM 274)] ∧ RI b11_6 (.seq (r11_54) (.seq (.cond (.tmp 260) (.skip) (.exit 12)) (.seq (.block 13 (.seq (r11_55) (r11_56))) (r11_57)))) ∧ KeepS T 11 b11_6 [11, 20, 26, 30, 258, 259] ∧ RR r11_58 [oo 276 (oL 25 30), oo 277 (o1 18 276 25), oo 278 (o1 17 277 34), oo 275 (oM 278), oo 279 (oX 275 0), oo 280 (oX 275 1), oo 33 (oG 279), oo 34 (oG 280)] ∧ RR r11_59 [oo 282 (oL 25 30), oo 283 (o1 18 282 25), oo 284 (o1 19 283 34), oo 281 (oM 284), oo 285 (oX 281 0), oo 286 (oX 281 1), oo 35 (oG 285), oo 36 (oG 286)] ∧ RR r11_60 [oo 288 (oL 25 30), oo 289 (o1 18 288 25), oo 290 (oM 11), oo 291 (o1 27 290 28), oo 292 (o2 29 289 291 34 28), oo 287 (oM 292), oo 293 (oX 287 0), oo 294 (oX 287 1), oo 37 (oG 293), oo 38 (oG 294)] ∧ RR r11_61 [oo 295 (oM 34), oo 296 (oC .neq 29 295 0), oo 297 (oM 296), of 298 (oM 36) 297, of 299 (oC .neq 29 298 0) 297, oo 300 (.pick (.tmp 297) (.const (.bool true)) (.tmp 299)), oo 301 (oM 300), of 302 (oM 38) 301, of 303 (oC .neq 29 302 0) 301, oo 304 (.pick (.tmp 301) (.const (.bool true)) (.tmp 303)), oo 305 (oM 304), of 306 (oM 37) 305, of 307 (.unOp .not 4 (.tmp 306)) 305, oo 308 (.pick (.tmp 305) (.const (.bool true)) (.tmp 307)), oo 309 (oM 308), of 310 (oM 33) 309, of 311 (oM 20) 309, of 312 (o2 89 310 311 28 28) 309, of 313 (.unOp .not 4 (.tmp 312)) 309, oo 314 (.pick (.tmp 309) (.const (.bool true)) (.tmp 313)), oo 315 (oM 314), of 316 (oM 35) 315, of 317 (oN 316 22) 315, of 318 (oC .neq 3 317 7) 315, oo 319 (.pick (.tmp 315) (.const (.bool true)) (.tmp 318))] ∧ RR r11_62 [oo 6 (.assign (.const (.bool false)))] ∧ RR r11_63 [oo 320 (oM 35), oo 321 (oN 320 22), oo 322 (.move (.const (.int .i64 0)))] ∧ RR r11_64 [oo 323 (oB .lss 3 322 321)] ∧ RR r11_65 [oo 324 (oM 322), oo 39 (oG 324)] ∧ RD r11_66 11 [oo 325 (oM 35), oo 326 (oM 39), oo 327 (oI 22 325 326), oo 328 (oL 28 327), oo 329 (oM 26), oo 330 (oM 39), oo 331 (.binOp .sub 3 (.const (.int .i64 6)) (.tmp 330) 3), oo 332 (oI 22 329 331), oo 333 (oL 28 332), oo 334 (o2 89 328 333 28 28), oo 335 (.unOp .not 4 (.tmp 334))] [(0, 1), (0, 4), (1, 4), (2, 4), (3, 4), (0, 5), (1, 5), (2, 5), (3, 5), (4, 5), (0, 6), (1, 6), (2, 6), (3, 6), (4, 6), (0, 7), (1, 7), (2, 7), (3, 7), (0, 8), (1, 8), (2, 8), (3, 8)] ∧ RR r11_67 [oo 6 (.assign (.const (.bool false)))] ∧ RR r11_68 [oo 336 (oC .add 3 322 1), oo 322 (oM 336)] ∧ RI b11_7 (.seq (r11_64) (.seq (.cond (.tmp 323) (.skip) (.exit 14)) (.seq (.block 15 (.seq (r11_65) (.seq (r11_66) (.cond (.tmp 335) (.seq (r11_67) (.ret)) (.skip))))) (r11_68)))) ∧ KeepS T 11 b11_7 [26, 35, 321, 322] ∧ RR r11_69 [oo 337 (.call ⟨.value (.func 16), #[], #[]⟩), oo 6 (oG 337)] ∧ FinF T 11 [.tmp 6] false := by refine ⟨runR T ?_, runR T ?_, runR T ?_, runR T ?_, runR T ?_, runR T ?_, runR T ?_, runR T ?_, runR T ?_, runR T ?_, runR T ?_, runR T ?_, runIc T ?_, keepS T ?_, runR T ?_, runR T ?_, runIc T ?_, keepS T ?_, runR T ?_, runR T ?_, runR T ?_, runR T ?_, runR T ?_, runR T ?_, runR T ?_, runR T ?_, runR T ?_, runR T ?_, runR T ?_, runR T ?_, runR T ?_, runD T (id := 27) ?_ ?_, runR T ?_, runR T ?_, runIc T ?_, keepS T ?_, runR T ?_, runR T ?_, runR T ?_, runIc T ?_, keepS T ?_, runR T ?_, runR T ?_, runR T ?_, runR T ?_, runR T ?_, runR T ?_, runR T ?_, runR T ?_, runR T ?_, runR T ?_, runR T ?_, runR T ?_, runR T ?_, runR T ?_, runIc T ?_, keepS T ?_, runR T ?_, runR T ?_, runR T ?_, runR T ?_, runD T (id := 51) ?_ ?_, runR T ?_, runIc T ?_, keepS T ?_, runR T ?_, runR T ?_, runR T ?_, runD T (id := 56) ?_ ?_, runR T ?_, runIc T ?_, keepS T ?_, runR T ?_, runR T ?_, runR T ?_, runR T ?_, runR T ?_, runR T ?_, runR T ?_, runR T ?_, runD T (id := 66) ?_ ?_, runR T ?_, runR T ?_, runIc T ?_, keepS T ?_, runR T ?_, finI T (F := Tryz.f11) ?_ ?_ ?_⟩ <;> kernel_rfl
@[go_sem] theorem fr172 : Fct T 172 true none true ∧ Res1 T 172 23 := by refine ⟨⟨?_, ?_, ?_⟩, res1 T (F := Tryz.f172) ?_ ?_⟩ <;> kernel_rfl
def r88_0 := nv 2 Tryz.f88
def r88_1 := nv 6 Tryz.f88
def r88_2 := nv 28 Tryz.f88
def b88_0 := nv 116 Tryz.f88
def r88_3 := nv 464 Tryz.f88
def r88_5 := nv 932 Tryz.f88
def r88_4 := nv 467 Tryz.f88
def r88_6 := nv 30 Tryz.f88
def r88_7 := nv 62 Tryz.f88
theorem ent88 : Ent T 88 32 (.seq (r88_0) (.seq (r88_1) (.seq (.seq (r88_2) (.block 0 (.loop b88_0))) (.seq (r88_6) (.seq (r88_7) (.ret)))))) := entI T (F := Tryz.f88) (by kernel_rfl) (by kernel_rfl) (by kernel_rfl)
@[go_sem ↓] theorem run88 : RR r88_0 [oo 1 (.box 25 (.tmp 0)), oo 2 (.alloc 25)] ∧ RR r88_1 [oo 5 (oF 25 1 1), oo 6 (oL 3 5), oo 7 (.build 25 #[(1, .tmp 6)]), oo 3 (.alloc 25), ow 25 3 7] ∧ RR r88_2 [oo 4 (oi 0)] ∧ RR r88_3 [oo 8 (oM 4), oo 9 (oF 25 1 0), oo 10 (oL 22 9), oo 11 (oN 10 22), oo 12 (oB .lss 3 8 11)] ∧ RD r88_5 88 [oo 15 (oF 25 3 0), oo 16 (oL 22 15), oo 17 (.buildSlice 28 0 #[]), oo 18 (oF 25 1 0), oo 19 (oL 22 18), oo 20 (oM 4), oo 21 (oI 22 19 20), oo 22 (oL 28 21), oo 23 (oA 17 22 28), oo 24 (oS 22 23), oo 25 (oA 16 24 22), oo 26 (oF 25 3 0), ow 22 26 25] [(0, 2), (1, 2), (0, 3), (1, 3), (2, 3), (0, 4), (1, 4), (2, 4), (0, 5), (1, 5), (2, 5), (3, 5), (4, 5), (0, 6), (1, 6), (2, 6), (0, 7), (1, 7), (2, 7), (0, 8), (1, 8), (0, 9), (1, 9)] ∧ RR r88_4 [oo 13 (oM 4), oo 14 (oC .add 3 13 1), oo 4 (oG 14)] ∧ RI b88_0 (.seq (.seq (r88_3) (.cond (.tmp 12) (.skip) (.exit 0))) (.seq (.block 1 (r88_5)) (r88_4))) ∧ KeepS T 88 b88_0 [1, 2, 3, 4] ∧ RR r88_6 [oo 27 (oF 25 1 2), oo 28 (oL 23 27), oo 29 (o1 172 28 23), oo 30 (oF 25 3 2), ow 23 30 29] ∧ RR r88_7 [oo 31 (oL 25 3), ow 25 2 31] ∧ FinF T 88 [.cell 2 25] true := by refine ⟨runR T ?_, runR T ?_, runR T ?_, runR T ?_, runD T (id := 5) ?_ ?_, runR T ?_, runIc T ?_, keepS T ?_, runR T ?_, runR T ?_, finI T (F := Tryz.f88) ?_ ?_ ?_⟩ <;> kernel_rfl
def r172_0 := nv 2 Tryz.f172
def r172_1 := nv 6 Tryz.f172
def r172_2 := nv 28 Tryz.f172
def b172_0 := nv 116 Tryz.f172
def r172_3 := nv 464 Tryz.f172
def r172_5 := nv 1864 Tryz.f172
def r172_6 := nv 3730 Tryz.f172
def r172_7 := nv 3731 Tryz.f172
def r172_4 := nv 467 Tryz.f172
def r172_8 := nv 30 Tryz.f172
theorem ent172 : Ent T 172 26 (.seq (r172_0) (.seq (r172_1) (.seq (.seq (r172_2) (.block 0 (.loop b172_0))) (.seq (r172_8) (.ret))))) := entI T (F := Tryz.f172) (by kernel_rfl) (by kernel_rfl) (by kernel_rfl)
@[go_sem ↓] theorem run172 : RR r172_0 [oo 2 on] ∧ RR r172_1 [oo 3 on] ∧ RR r172_2 [oo 4 (oi 0)] ∧ RR r172_3 [oo 6 (oM 4), oo 7 (oM 0), oo 8 (oN 7 23), oo 9 (oB .lss 3 6 8)] ∧ RR r172_5 [oo 12 (oM 0), oo 13 (oM 4), oo 14 (oI 23 12 13), oo 15 (oL 140 14), oo 5 (.alloc 140), ow 140 5 15] ∧ RR r172_6 [oo 16 (.buildSlice 72 0 #[]), oo 17 (oF 140 5 2), oo 18 (oL 72 17), oo 19 (oA 16 18 72), oo 20 (oF 140 5 2), ow 72 20 19] ∧ RR r172_7 [oo 21 (oM 3), oo 22 (oL 140 5), oo 23 (oS 23 22), oo 24 (oA 21 23 23), oo 3 (oG 24)] ∧ RR r172_4 [oo 10 (oM 4), oo 11 (oC .add 3 10 1), oo 4 (oG 11)] ∧ RI b172_0 (.seq (.seq (r172_3) (.cond (.tmp 9) (.skip) (.exit 0))) (.seq (.block 1 (.seq (r172_5) (.seq (r172_6) (r172_7)))) (r172_4))) ∧ KeepS T 172 b172_0 [0, 3, 4] ∧ RR r172_8 [oo 25 (oM 3), oo 2 (oG 25)] ∧ FinF T 172 [.tmp 2] true := by refine ⟨runR T ?_, runR T ?_, runR T ?_, runR T ?_, runR T ?_, runR T ?_, runR T ?_, runR T ?_, runIc T ?_, keepS T ?_, runR T ?_, finI T (F := Tryz.f172) ?_ ?_ ?_⟩ <;> kernel_rfl
end Go.Den.FaU
end
