import Derived.Test.YtifljcjddphpjaaGreatDoorFaTab
import Derived.Test.YtifljcjddphpjaaGreatDoorZQ
import Derived.Test.YtifljcjddphpjaaGreatDoorFaS0
import Derived.Test.YtifljcjddphpjaaGreatDoorFaS1
import Derived.Test.YtifljcjddphpjaaGreatDoorFaS2
import Derived.Test.YtifljcjddphpjaaGreatDoorFaS3
set_option linter.all false
set_option maxHeartbeats 8000000
set_option maxRecDepth 100000
noncomputable section
namespace Go.Den.FaT
open Go Go.Proofs Go.Den
@[go_sem] theorem fr6 : Fct T 6 false none false ∧ Res1 T 6 4 := by refine ⟨⟨?_, ?_, ?_⟩, res1 T (F := Tryz.f6) ?_ ?_⟩ <;> kernel_rfl
@[go_sem] theorem fr45 : Fct T 45 false none false ∧ Res2 T 45 48 29 [] := by refine ⟨⟨?_, ?_, ?_⟩, res2 T (F := Tryz.f45) ?_ ?_⟩ <;> kernel_rfl
@[go_sem] theorem fr46 : Fct T 46 false none false ∧ Res1 T 46 29 := by refine ⟨⟨?_, ?_, ?_⟩, res1 T (F := Tryz.f46) ?_ ?_⟩ <;> kernel_rfl
@[go_sem] theorem fr47 : Fct T 47 false none false ∧ Res1 T 47 48 := by refine ⟨⟨?_, ?_, ?_⟩, res1 T (F := Tryz.f47) ?_ ?_⟩ <;> kernel_rfl
@[go_sem] theorem fr48 : Fct T 48 false none false ∧ Res1 T 48 3 := by refine ⟨⟨?_, ?_, ?_⟩, res1 T (F := Tryz.f48) ?_ ?_⟩ <;> kernel_rfl
@[go_sem] theorem fr49 : Fct T 49 false none false ∧ Res1 T 49 48 := by refine ⟨⟨?_, ?_, ?_⟩, res1 T (F := Tryz.f49) ?_ ?_⟩ <;> kernel_rfl
def r6_0 := nv 2 Tryz.f6
def r6_1 := nv 12 Tryz.f6
def r6_2 := nv 52 Tryz.f6
def r6_3 := nv 14 Tryz.f6
def r6_4 := nv 30 Tryz.f6
def r6_5 := nv 62 Tryz.f6
def r6_6 := nv 126 Tryz.f6
def r6_7 := nv 508 Tryz.f6
def r6_8 := nv 2036 Tryz.f6
def r6_9 := nv 2037 Tryz.f6
def r6_10 := nv 1020 Tryz.f6
def r6_11 := nv 2042 Tryz.f6
def r6_12 := nv 1022 Tryz.f6
theorem ent6 : Ent T 6 66 (.seq (r6_0) (.seq (.seq (r6_1) (.cond (.tmp 20) (.seq (r6_2) (.ret)) (.skip))) (.seq (r6_3) (.seq (r6_4) (.seq (r6_5) (.seq (r6_6) (.seq (.seq (r6_7) (.cond (.tmp 39) (.seq (r6_8) (r6_9)) (.skip))) (.seq (.seq (r6_10) (.cond (.tmp 50) (r6_11) (.skip))) (.seq (r6_12) (.ret)))))))))) := entI T (F := Tryz.f6) (by kernel_rfl) (by kernel_rfl) (by kernel_rfl)
@[go_sem ↓] theorem run6 : RR r6_0 [oo 3 (.box 25 (.tmp 0)), oo 6 (.assign (.const (.bool false)))] ∧ RR r6_1 [oo 13 (oL 25 3), oo 14 (o1 15 13 25), oo 15 (.unOp .not 4 (.tmp 14)), oo 16 (oM 15), of 17 (oM 2) 16, of 18 (oN 17 48) 16, of 19 (oC .gtr 3 18 64) 16, oo 20 (.pick (.tmp 16) (.const (.bool true)) (.tmp 19))] ∧ RR r6_2 [oo 21 (.call ⟨.value (.func 16), #[], #[]⟩), oo 6 (oG 21)] ∧ RR r6_3 [oo 23 (oL 25 3), oo 24 (o1 18 23 25), oo 25 (o1 45 24 34), oo 22 (oM 25), oo 26 (oX 22 0), oo 27 (oX 22 1), oo 7 (oG 26), oo 8 (oG 27)] ∧ RR r6_4 [oo 28 (oL 25 3), oo 29 (o1 18 28 25), oo 30 (oM 1), oo 31 (oM 2), oo 32 (o1 47 31 48), oo 33 (.call ⟨.value (.func 46), #[.tmp 29, .tmp 30, .tmp 32], #[34, 3, 48]⟩), oo 9 (oG 33)] ∧ RD r6_5 6 [oo 34 (oL 25 3), oo 35 (o1 20 34 25), oo 36 (oL 25 3), oo 37 (o1 20 36 25), oo 10 (oG 35), oo 11 (oG 37)] [(0, 2), (1, 2)] ∧ RR r6_6 [oo 12 on] ∧ RR r6_7 [oo 38 (oM 10), oo 39 (oC .eql 3 38 0)] ∧ RR r6_8 [oo 40 (oL 25 3), oo 41 (oM 1), oo 42 (oM 2), oo 43 (.call ⟨.value (.func 48), #[.tmp 40, .tmp 41, .tmp 42], #[25, 3, 48]⟩), oo 11 (oG 43)] ∧ RR r6_9 [oo 44 (oL 25 3), oo 45 (o1 40 44 25), oo 46 (oN 45 22), oo 47 (oC .eql 3 46 0), oo 48 (.call ⟨.value (.func 39), #[.tmp 47, .const (.int .i64 18)], #[4, 3]⟩), oo 10 (oG 48)] ∧ RR r6_10 [oo 49 (oM 10), oo 50 (oC .eql 3 49 0)] ∧ RR r6_11 [oo 51 (oL 25 3), oo 52 (o1 49 51 25), oo 12 (oG 52)] ∧ RR r6_12 [oo 53 (oM 7), oo 54 (oM 8), oo 55 (oM 10), oo 56 (oM 12), oo 57 (.call ⟨.value (.func 35), #[.tmp 53, .tmp 54, .tmp 55, .tmp 56], #[48, 29, 3, 48]⟩), oo 58 (oM 57), ot 59 (oM 9) 58, ot 60 (oM 11) 58, ot 61 (oB .eql 3 59 60) 58, oo 62 (.pick (.tmp 58) (.tmp 61) (.const (.bool false))), oo 63 (oM 62), ot 64 (.call ⟨.value (.func 16), #[], #[]⟩) 63, oo 65 (.pick (.tmp 63) (.tmp 64) (.const (.bool false))), oo 6 (oG 65)] ∧ FinF T 6 [.tmp 6] false := by refine ⟨runR T ?_, runR T ?_, runR T ?_, runR T ?_, runR T ?_, runD T (id := 5) ?_ ?_, runR T ?_, runR T ?_, runR T ?_, runR T ?_, runR T ?_, runR T ?_, runR T ?_, finI T (F := Tryz.f6) ?_ ?_ ?_⟩ <;> kernel_rfl
def r45_0 := nv 2 Tryz.f45
def s45_0 := nv 6 Tryz.f45
def r45_1 := nv 12 Tryz.f45
def r45_2 := nv 52 Tryz.f45
def r45_3 := nv 212 Tryz.f45
def r45_4 := nv 54 Tryz.f45
def r45_5 := nv 444 Tryz.f45
def a45_1 := nv 1780 Tryz.f45
def c45_1 := nv 1781 Tryz.f45
def r45_6 := nv 1780 Tryz.f45
def r45_7 := nv 14248 Tryz.f45
def r45_8 := nv 14250 Tryz.f45
def a45_2 := nv 57004 Tryz.f45
def c45_2 := nv 57005 Tryz.f45
def r45_9 := nv 57004 Tryz.f45
def r45_10 := nv 228020 Tryz.f45
def r45_11 := nv 446 Tryz.f45
theorem ent45 : Ent T 45 38 (.seq (r45_0) (.scope s45_0)) := entI T (F := Tryz.f45) (by kernel_rfl) (by kernel_rfl) (by kernel_rfl)
@[go_sem ↓] theorem run45 : RR r45_0 [oo 1 (.box 34 (.tmp 0)), oo 2 on, oo 3 (oi 0)] ∧ RR r45_1 [oo 10 (oL 34 1), oo 11 (o1 128 10 34), oo 9 (oM 11), oo 12 (oX 9 0), oo 13 (oX 9 1), oo 4 (.alloc 22), ow 22 4 12, oo 5 (oG 13)] ∧ RR r45_2 [oo 14 (oM 5), oo 15 (oC .neq 29 14 0)] ∧ RR r45_3 [oo 16 (oM 5), oo 2 on, oo 3 (oG 16)] ∧ RR r45_4 [oo 6 (.alloc 48)] ∧ RR r45_5 [oo 17 (oF 34 1 2), oo 18 (oL 32 17), oo 19 (oN 18 32), oo 20 (o1 136 19 3)] ∧ RR r45_6 [oo 7 (oG 21)] ∧ RR r45_7 [oo 22 (oM 7), oo 23 (oN 22 28), oo 24 (oL 22 4), oo 25 (.indexAddr 22 (.tmp 24) (.const (.int .i64 0))), oo 26 (oL 28 25), oo 27 (oN 26 28), oo 28 (oB .geq 3 23 27)] ∧ RR r45_8 [oo 29 (oL 34 1), oo 30 (oM 7), oo 31 (o2 125 29 30 34 28)] ∧ RR r45_9 [oo 8 (.alloc 100), ow 100 8 32] ∧ RR r45_10 [oo 33 (oL 48 6), oo 34 (oL 100 8), oo 35 (oS 48 34), oo 36 (oA 33 35 48), ow 48 6 36] ∧ RI a45_2 (r45_9) ∧ RI c45_2 (.block 3 (.seq (r45_10) (.exit 1))) ∧ RI a45_1 (r45_6) ∧ RI c45_1 (.block 1 (.seq (.seq (r45_7) (.cond (.tmp 28) (.exit 0) (.skip))) (.seq (r45_8) (.block 2 (.rangeFunc (.tmp 31) #[32] a45_2 c45_2))))) ∧ RR r45_11 [oo 37 (oL 48 6), oo 2 (oG 37), oo 3 (oi 0)] ∧ RI s45_0 (.seq (r45_1) (.seq (.seq (r45_2) (.cond (.tmp 15) (.seq (r45_3) (.ret)) (.skip))) (.seq (r45_4) (.seq (.label 0) (.seq (.seq (r45_5) (.block 0 (.rangeFunc (.tmp 20) #[21] a45_1 c45_1))) (.seq (r45_11) (.ret))))))) ∧ FinF T 45 [.tmp 2, .tmp 3] false := by refine ⟨runR T ?_, runR T ?_, runR T ?_, runR T ?_, runR T ?_, runR T ?_, runR T ?_, runR T ?_, runR T ?_, runR T ?_, runR T ?_, runIc T ?_, runIc T ?_, runIc T ?_, runIc T ?_, runR T ?_, runIc T ?_, finI T (F := Tryz.f45) ?_ ?_ ?_⟩ <;> kernel_rfl
@[go_sem] theorem fr138 : Fct T 138 true none false ∧ Res1 T 138 22 := by refine ⟨⟨?_, ?_, ?_⟩, res1 T (F := Tryz.f138) ?_ ?_⟩ <;> kernel_rfl
@[go_sem] theorem fr139 : Fct T 139 false none false ∧ Res1 T 139 4 := by refine ⟨⟨?_, ?_, ?_⟩, res1 T (F := Tryz.f139) ?_ ?_⟩ <;> kernel_rfl
@[go_sem] theorem fr140 : Fct T 140 false none false ∧ Res1 T 140 29 := by refine ⟨⟨?_, ?_, ?_⟩, res1 T (F := Tryz.f140) ?_ ?_⟩ <;> kernel_rfl
@[go_sem] theorem fr141 : Fct T 141 false none false ∧ Res1 T 141 187 := by refine ⟨⟨?_, ?_, ?_⟩, res1 T (F := Tryz.f141) ?_ ?_⟩ <;> kernel_rfl
@[go_sem] theorem fr142 : Fct T 142 false none false ∧ Res1 T 142 4 := by refine ⟨⟨?_, ?_, ?_⟩, res1 T (F := Tryz.f142) ?_ ?_⟩ <;> kernel_rfl
@[go_sem] theorem fr143 : Fct T 143 false none false ∧ Res1 T 143 4 := by refine ⟨⟨?_, ?_, ?_⟩, res1 T (F := Tryz.f143) ?_ ?_⟩ <;> kernel_rfl
def r46_0 := nv 2 Tryz.f46
def r46_1 := nv 12 Tryz.f46
def r46_2 := nv 26 Tryz.f46
def r46_3 := nv 108 Tryz.f46
def r46_4 := nv 28 Tryz.f46
def r46_5 := nv 58 Tryz.f46
def r46_6 := nv 236 Tryz.f46
def r46_7 := nv 30 Tryz.f46
def r46_8 := nv 62 Tryz.f46
def r46_9 := nv 252 Tryz.f46
def r46_10 := nv 506 Tryz.f46
def r46_11 := nv 2028 Tryz.f46
def r46_12 := nv 508 Tryz.f46
def b46_0 := nv 2036 Tryz.f46
def r46_13 := nv 4072 Tryz.f46
def r46_14 := nv 65176 Tryz.f46
def r46_15 := nv 130354 Tryz.f46
def r46_16 := nv 260710 Tryz.f46
def r46_17 := nv 1042844 Tryz.f46
def r46_18 := nv 16295 Tryz.f46
def r46_19 := nv 510 Tryz.f46
theorem ent46 : Ent T 46 67 (.seq (r46_0) (.seq (.seq (r46_1) (.seq (r46_2) (.cond (.tmp 18) (.seq (r46_3) (.ret)) (.skip)))) (.seq (.seq (r46_4) (.seq (r46_5) (.cond (.tmp 26) (.seq (r46_6) (.ret)) (.skip)))) (.seq (r46_7) (.seq (r46_8) (.seq (.seq (r46_9) (.seq (r46_10) (.cond (.tmp 49) (.seq (r46_11) (.ret)) (.skip)))) (.seq (.seq (r46_12) (.block 0 (.loop b46_0))) (.seq (r46_19) (.ret))))))))) := entI T (F := Tryz.f46) (by kernel_rfl) (by kernel_rfl) (by kernel_rfl)
@[go_sem ↓] theorem run46 : RR r46_0 [oo 3 (.box 34 (.tmp 0)), oo 4 (.box 3 (.tmp 1)), oo 5 (.box 48 (.tmp 2)), oo 6 (oi 0)] ∧ RR r46_1 [oo 15 (oL 34 3), oo 16 (o1 23 15 34), oo 7 (oG 16)] ∧ RR r46_2 [oo 17 (oM 7), oo 18 (oC .neq 29 17 0)] ∧ RR r46_3 [oo 19 (oM 7), oo 6 (oG 19)] ∧ RR r46_4 [oo 20 (oL 3 4), oo 21 (oF 34 3 2), oo 22 (oL 32 21), oo 23 (oN 22 32), oo 24 (.call ⟨.value (.func 137), #[.tmp 20, .const (.int .i64 0), .tmp 23], #[3, 3, 3]⟩), oo 8 (oG 24)] ∧ RR r46_5 [oo 25 (oM 8), oo 26 (oC .neq 29 25 0)] ∧ RR r46_6 [oo 27 (oM 8), oo 6 (oG 27)] ∧ RR r46_7 [oo 28 (oF 34 3 2), oo 29 (oL 32 28), oo 30 (oN 29 32), oo 31 (o1 136 30 3), oo 32 (o1 138 31 209), oo 33 (.makeFunc (.func 139) #[] #[.tmp 4]), oo 34 (o2 129 32 33 22 201), oo 9 (oG 34)] ∧ RR r46_8 [oo 35 (.makeFunc (.func 140) #[] #[.tmp 3]), oo 10 (oG 35)] ∧ RD r46_9 46 [oo 36 (oM 9), oo 37 (oN 36 22), oo 38 (oL 48 5), oo 39 (oN 38 48), oo 40 (oB .neq 3 37 39), oo 41 (.call ⟨.value (.func 115), #[.tmp 40, .const (.int .i64 2)], #[4, 29]⟩), oo 42 (oL 48 5), oo 43 (oM 10), oo 44 (o2 141 42 43 48 213), oo 45 (o1 114 44 187), oo 46 (.buildSlice 187 2 #[(0, .tmp 41), (1, .tmp 45)]), oo 47 (o1 114 46 187), oo 11 (oG 47)] [(0, 2), (1, 2), (0, 3), (1, 3), (0, 6), (1, 6), (2, 6), (3, 6), (4, 6), (5, 6), (0, 7), (1, 7), (2, 7), (3, 7), (4, 7), (5, 7), (6, 7)] ∧ RR r46_10 [oo 48 (oM 11), oo 49 (oC .neq 29 48 0)] ∧ RR r46_11 [oo 50 (oM 11), oo 6 (oG 50)] ∧ RR r46_12 [oo 51 (oM 9), oo 52 (oN 51 22), oo 53 (.move (.const (.int .i64 0)))] ∧ RR r46_13 [oo 54 (oB .lss 3 53 52)] ∧ RR r46_14 [oo 55 (oM 53), oo 56 (oI 22 51 53), oo 57 (oL 28 56), oo 12 (.alloc 3), ow 3 12 55, oo 13 (oG 57)] ∧ RR r46_15 [oo 58 (.makeFunc (.func 142) #[] #[.tmp 5, .tmp 12]), oo 14 (oG 58)] ∧ RR r46_16 [oo 59 (oL 34 3), oo 60 (oM 13), oo 61 (o2 125 59 60 34 28), oo 62 (o1 124 61 199), oo 63 (oM 14), oo 64 (o2 143 62 63 48 215), oo 65 (.unOp .not 4 (.tmp 64))] ∧ RR r46_17 [oo 6 (oi 19)] ∧ RR r46_18 [oo 66 (oC .add 3 53 1), oo 53 (oM 66)] ∧ RI b46_0 (.seq (r46_13) (.seq (.cond (.tmp 54) (.skip) (.exit 0)) (.seq (.block 1 (.seq (r46_14) (.seq (r46_15) (.seq (r46_16) (.cond (.tmp 65) (.seq (r46_17) (.ret)) (.skip)))))) (r46_18)))) ∧ KeepS T 46 b46_0 [3, 5, 51, 52, 53] ∧ RR r46_19 [oo 6 (oi 0)] ∧ FinF T 46 [.tmp 6] false := by refine ⟨runR T ?_, runR T ?_, runR T ?_, runR T ?_, runR T ?_, runR T ?_, runR T ?_, runR T ?_, runR T ?_, runD T (id := 9) ?_ ?_, runR T ?_, runR T ?_, runR T ?_, runR T ?_, runR T ?_, runR T ?_, runR T ?_, runR T ?_, runR T ?_, runIc T ?_, keepS T ?_, runR T ?_, finI T (F := Tryz.f46) ?_ ?_ ?_⟩ <;> kernel_rfl
def r47_0 := nv 2 Tryz.f47
def r47_1 := nv 6 Tryz.f47
theorem ent47 : Ent T 47 6 (.seq (r47_0) (.seq (r47_1) (.ret))) := entI T (F := Tryz.f47) (by kernel_rfl) (by kernel_rfl) (by kernel_rfl)
@[go_sem ↓] theorem run47 : RR r47_0 [oo 2 on] ∧ RR r47_1 [oo 3 (.buildSlice 48 0 #[]), oo 4 (oM 0), oo 5 (oA 3 4 48), oo 2 (oG 5)] ∧ FinF T 47 [.tmp 2] false := by refine ⟨runR T ?_, runR T ?_, finI T (F := Tryz.f47) ?_ ?_ ?_⟩ <;> kernel_rfl
@[go_sem] theorem fr91 : Fct T 91 false none false ∧ Res1 T 91 4 := by refine ⟨⟨?_, ?_, ?_⟩, res1 T (F := Tryz.f91) ?_ ?_⟩ <;> kernel_rfl
@[go_sem] theorem fr144 : Fct T 144 false none false ∧ Res1 T 144 22 := by refine ⟨⟨?_, ?_, ?_⟩, res1 T (F := Tryz.f144) ?_ ?_⟩ <;> kernel_rfl
def r48_0 := nv 2 Tryz.f48
def r48_1 := nv 12 Tryz.f48
def r48_2 := nv 26 Tryz.f48
def r48_3 := nv 108 Tryz.f48
def r48_4 := nv 14 Tryz.f48
def r48_5 := nv 60 Tryz.f48
def r48_6 := nv 244 Tryz.f48
def r48_7 := nv 124 Tryz.f48
def b48_0 := nv 500 Tryz.f48
def r48_8 := nv 2000 Tryz.f48
def r48_10 := nv 8008 Tryz.f48
def r48_11 := nv 32036 Tryz.f48
def r48_9 := nv 2003 Tryz.f48
def r48_12 := nv 252 Tryz.f48
def b48_1 := nv 1012 Tryz.f48
def r48_13 := nv 4048 Tryz.f48
def r48_15 := nv 16200 Tryz.f48
def r48_16 := nv 64804 Tryz.f48
def r48_14 := nv 4051 Tryz.f48
def r48_17 := nv 254 Tryz.f48
theorem ent48 : Ent T 48 89 (.seq (r48_0) (.seq (.seq (r48_1) (.seq (r48_2) (.cond (.tmp 17) (.seq (r48_3) (.ret)) (.skip)))) (.seq (r48_4) (.seq (.seq (r48_5) (.cond (.tmp 26) (.seq (r48_6) (.ret)) (.skip))) (.seq (.seq (r48_7) (.block 0 (.loop b48_0))) (.seq (.seq (r48_12) (.block 2 (.loop b48_1))) (.seq (r48_17) (.ret)))))))) := entI T (F := Tryz.f48) (by kernel_rfl) (by kernel_rfl) (by kernel_rfl)
@[go_sem ↓] theorem run48 : RR r48_0 [oo 3 (.box 25 (.tmp 0)), oo 6 (oi 0)] ∧ RR r48_1 [oo 11 (oM 1), oo 12 (oF 25 3 2), oo 13 (oL 23 12), oo 14 (oN 13 23), oo 15 (.call ⟨.value (.func 90), #[.tmp 11, .const (.int .i64 0), .tmp 14], #[3, 3, 3]⟩), oo 7 (oG 15)] ∧ RR r48_2 [oo 16 (oM 7), oo 17 (oC .neq 3 16 0)] ∧ RR r48_3 [oo 18 (oM 7), oo 6 (oG 18)] ∧ RR r48_4 [oo 19 (oL 25 3), oo 20 (oM 1), oo 21 (o2 144 19 20 25 3), oo 8 (oG 21)] ∧ RR r48_5 [oo 22 (oM 2), oo 23 (oN 22 48), oo 24 (oM 8), oo 25 (oN 24 22), oo 26 (oB .neq 3 23 25)] ∧ RR r48_6 [oo 6 (oi 2)] ∧ RR r48_7 [oo 9 (oi 0)] ∧ RR r48_8 [oo 27 (oM 9), oo 28 (oM 2), oo 29 (oN 28 48), oo 30 (oB .lss 3 27 29)] ∧ RD r48_10 48 [oo 33 (oM 2), oo 34 (oM 9), oo 35 (oI 48 33 34), oo 36 (oF 100 35 0), oo 37 (oL 3 36), oo 38 (oC .lss 3 37 0), oo 39 (oM 38), of 40 (oM 2) 39, of 41 (oM 9) 39, of 42 (oI 48 40 41) 39, of 43 (oF 100 42 0) 39, of 44 (oL 3 43) 39, of 45 (oF 25 3 0) 39, of 46 (oL 22 45) 39, of 47 (oN 46 22) 39, of 48 (oB .geq 3 44 47) 39, oo 49 (.pick (.tmp 39) (.const (.bool true)) (.tmp 48)), oo 50 (oM 49), of 51 (oM 2) 50, of 52 (oM 9) 50, of 53 (oI 48 51 52) 50, of 54 (oF 100 53 1) 50, of 55 (oL 3 54) 50, of 56 (oC .lss 3 55 0) 50, oo 57 (.pick (.tmp 50) (.const (.bool true)) (.tmp 56)), oo 58 (oM 57), of 59 (oM 2) 58, of 60 (oM 9) 58, of 61 (oI 48 59 60) 58, of 62 (oF 100 61 1) 58, of 63 (oL 3 62) 58, of 64 (oF 25 3 0) 58, of 65 (oL 22 64) 58, of 66 (.indexAddr 22 (.tmp 65) (.const (.int .i64 0))) 58, of 67 (oL 28 66) 58, of 68 (oN 67 28) 58, of 69 (oB .geq 3 63 68) 58, oo 70 (.pick (.tmp 58) (.const (.bool true)) (.tmp 69))] [(0, 1), (7, 8), (7, 12), (8, 12), (9, 12), (10, 12), (11, 12), (7, 13), (8, 13), (9, 13), (10, 13), (11, 13), (7, 14), (8, 14), (9, 14), (10, 14), (11, 14), (18, 19), (26, 27), (26, 31), (27, 31), (28, 31), (29, 31), (30, 31), (26, 32), (27, 32), (28, 32), (29, 32), (30, 32), (26, 33), (27, 33), (28, 33), (29, 33), (30, 33), (26, 34), (27, 34), (28, 34), (29, 34), (30, 34), (26, 35), (27, 35), (28, 35), (29, 35), (30, 35)] ∧ RR r48_11 [oo 6 (oi 10)] ∧ RR r48_9 [oo 31 (oM 9), oo 32 (oC .add 3 31 1), oo 9 (oG 32)] ∧ RI b48_0 (.seq (.seq (r48_8) (.cond (.tmp 30) (.skip) (.exit 0))) (.seq (.block 1 (.seq (r48_10) (.cond (.tmp 70) (.seq (r48_11) (.ret)) (.skip)))) (r48_9))) ∧ KeepS T 48 b48_0 [2, 3, 8, 9] ∧ RR r48_12 [oo 10 (oi 0)] ∧ RR r48_13 [oo 71 (oM 10), oo 72 (oM 8), oo 73 (oN 72 22), oo 74 (oB .lss 3 71 73)] ∧ RD r48_15 48 [oo 77 (oL 25 3), oo 78 (oM 8), oo 79 (oM 10), oo 80 (oI 22 78 79), oo 81 (oL 28 80), oo 82 (o2 33 77 81 25 28), oo 83 (oM 2), oo 84 (oM 10), oo 85 (oI 48 83 84), oo 86 (oL 100 85), oo 87 (o2 91 82 86 48 100), oo 88 (.unOp .not 4 (.tmp 87))] [(0, 1), (0, 2), (1, 2), (0, 3), (0, 4), (0, 6), (1, 6), (2, 6), (3, 6), (4, 6), (5, 6), (0, 7), (1, 7), (2, 7), (3, 7), (4, 7), (5, 7), (6, 7), (0, 8), (1, 8), (2, 8), (3, 8), (4, 8), (5, 8), (0, 9), (1, 9), (2, 9), (3, 9), (4, 9), (5, 9)] ∧ RR r48_16 [oo 6 (oi 19)] ∧ RR r48_14 [oo 75 (oM 10), oo 76 (oC .add 3 75 1), oo 10 (oG 76)] ∧ RI b48_1 (.seq (.seq (r48_13) (.cond (.tmp 74) (.skip) (.exit 2))) (.seq (.block 3 (.seq (r48_15) (.cond (.tmp 88) (.seq (r48_16) (.ret)) (.skip)))) (r48_14))) ∧ KeepS T 48 b48_1 [2, 3, 8, 10] ∧ RR r48_17 [oo 6 (oi 0)] ∧ FinF T 48 [.tmp 6] false := by refine ⟨runR T ?_, runR T ?_, runR T ?_, runR T ?_, runR T ?_, runR T ?_, runR T ?_, runR T ?_, runR T ?_, runD T (id := 10) ?_ ?_, runR T ?_, runR T ?_, runIc T ?_, keepS T ?_, runR T ?_, runR T ?_, runD T (id := 15) ?_ ?_, runR T ?_, runR T ?_, runIc T ?_, keepS T ?_, runR T ?_, finI T (F := Tryz.f48) ?_ ?_ ?_⟩ <;> kernel_rfl
def r49_0 := nv 2 Tryz.f49
def r49_1 := nv 6 Tryz.f49
def r49_2 := nv 14 Tryz.f49
def r49_3 := nv 60 Tryz.f49
def b49_0 := nv 244 Tryz.f49
def r49_4 := nv 976 Tryz.f49
def r49_6 := nv 1956 Tryz.f49
def r49_5 := nv 979 Tryz.f49
def r49_7 := nv 62 Tryz.f49
theorem ent49 : Ent T 49 31 (.seq (r49_0) (.seq (r49_1) (.seq (r49_2) (.seq (.seq (r49_3) (.block 0 (.loop b49_0))) (.seq (r49_7) (.ret)))))) := entI T (F := Tryz.f49) (by kernel_rfl) (by kernel_rfl) (by kernel_rfl)
@[go_sem ↓] theorem run49 : RR r49_0 [oo 1 (.box 25 (.tmp 0)), oo 2 on] ∧ RR r49_1 [oo 3 on] ∧ RD r49_2 49 [oo 6 (oL 25 1), oo 7 (oL 25 1), oo 8 (o1 41 7 25), oo 9 (.indexAddr 22 (.tmp 8) (.const (.int .i64 0))), oo 10 (oL 28 9), oo 11 (oN 10 28), oo 12 (o2 144 6 11 25 3), oo 4 (oG 12)] [(0, 1), (0, 2), (0, 3), (0, 4), (0, 5)] ∧ RR r49_3 [oo 5 (oi 0)] ∧ RR r49_4 [oo 13 (oM 5), oo 14 (oM 4), oo 15 (oN 14 22), oo 16 (oB .lss 3 13 15)] ∧ RD r49_6 49 [oo 19 (oM 3), oo 20 (oL 25 1), oo 21 (oM 4), oo 22 (oM 5), oo 23 (oI 22 21 22), oo 24 (oL 28 23), oo 25 (o2 33 20 24 25 28), oo 26 (.indexAddr 48 (.tmp 25) (.const (.int .i64 0))), oo 27 (oL 100 26), oo 28 (oS 48 27), oo 29 (oA 19 28 48), oo 3 (oG 29)] [(0, 1), (0, 2), (1, 2), (0, 3), (1, 3), (2, 3), (0, 4), (1, 4), (0, 5), (1, 5), (0, 6), (0, 7), (0, 8), (0, 9)] ∧ RR r49_5 [oo 17 (oM 5), oo 18 (oC .add 3 17 1), oo 5 (oG 18)] ∧ RI b49_0 (.seq (.seq (r49_4) (.cond (.tmp 16) (.skip) (.exit 0))) (.seq (.block 1 (r49_6)) (r49_5))) ∧ KeepS T 49 b49_0 [1, 3, 4, 5] ∧ RR r49_7 [oo 30 (oM 3), oo 2 (oG 30)] ∧ FinF T 49 [.tmp 2] false := by refine ⟨runR T ?_, runR T ?_, runD T (id := 2) ?_ ?_, runR T ?_, runR T ?_, runD T (id := 6) ?_ ?_, runR T ?_, runIc T ?_, keepS T ?_, runR T ?_, finI T (F := Tryz.f49) ?_ ?_ ?_⟩ <;> kernel_rfl
def r91_0 := nv 2 Tryz.f91
def r91_1 := nv 12 Tryz.f91
def b91_0 := nv 52 Tryz.f91
def r91_2 := nv 208 Tryz.f91
def r91_4 := nv 840 Tryz.f91
def r91_5 := nv 3364 Tryz.f91
def r91_3 := nv 211 Tryz.f91
def r91_6 := nv 14 Tryz.f91
theorem ent91 : Ent T 91 18 (.seq (r91_0) (.seq (.seq (r91_1) (.block 0 (.loop b91_0))) (.seq (r91_6) (.ret)))) := entI T (F := Tryz.f91) (by kernel_rfl) (by kernel_rfl) (by kernel_rfl)
@[go_sem ↓] theorem run91 : RR r91_0 [oo 3 (.box 100 (.tmp 1)), oo 4 (.assign (.const (.bool false)))] ∧ RR r91_1 [oo 5 (oi 0)] ∧ RR r91_2 [oo 6 (oM 5), oo 7 (oM 0), oo 8 (oN 7 48), oo 9 (oB .lss 3 6 8)] ∧ RD r91_4 91 [oo 12 (oM 0), oo 13 (oM 5), oo 14 (oI 48 12 13), oo 15 (oL 100 14), oo 16 (oL 100 3), oo 17 (oB .eql 100 15 16)] [(0, 1), (0, 4), (1, 4), (2, 4), (3, 4)] ∧ RR r91_5 [oo 4 (.assign (.const (.bool true)))] ∧ RR r91_3 [oo 10 (oM 5), oo 11 (oC .add 3 10 1), oo 5 (oG 11)] ∧ RI b91_0 (.seq (.seq (r91_2) (.cond (.tmp 9) (.skip) (.exit 0))) (.seq (.block 1 (.seq (r91_4) (.cond (.tmp 17) (.seq (r91_5) (.ret)) (.skip)))) (r91_3))) ∧ KeepS T 91 b91_0 [0, 3, 5] ∧ RR r91_6 [oo 4 (.assign (.const (.bool false)))] ∧ FinF T 91 [.tmp 4] false := by refine ⟨runR T ?_, runR T ?_, runR T ?_, runD T (id := 4) ?_ ?_, runR T ?_, runR T ?_, runIc T ?_, keepS T ?_, runR T ?_, finI T (F := Tryz.f91) ?_ ?_ ?_⟩ <;> kernel_rfl
@[go_sem] theorem fr210 : Fct T 210 true none false ∧ Res1 T 210 22 := by refine ⟨⟨?_, ?_, ?_⟩, res1 T (F := Tryz.f210) ?_ ?_⟩ <;> kernel_rfl
def r138_0 := nv 2 Tryz.f138
def r138_1 := nv 6 Tryz.f138
theorem ent138 : Ent T 138 5 (.seq (r138_0) (.seq (r138_1) (.ret))) := entI T (F := Tryz.f138) (by kernel_rfl) (by kernel_rfl) (by kernel_rfl)
@[go_sem ↓] theorem run138 : RR r138_0 [oo 2 on] ∧ RR r138_1 [oo 3 (oM 0), oo 4 (.call ⟨.value (.func 210), #[.const (.slice none 0 0), .tmp 3], #[22, 209]⟩), oo 2 (oG 4)] ∧ FinF T 138 [.tmp 2] true := by refine ⟨runR T ?_, runR T ?_, finI T (F := Tryz.f138) ?_ ?_ ?_⟩ <;> kernel_rfl
def r139_0 := nv 2 Tryz.f139
def r139_1 := nv 6 Tryz.f139
theorem ent139 : Ent T 139 8 (.seq (r139_0) (.seq (r139_1) (.ret))) := entI T (F := Tryz.f139) (by kernel_rfl) (by kernel_rfl) (by kernel_rfl)
@[go_sem ↓] theorem run139 : RR r139_0 [oo 3 (.assign (.const (.bool false)))] ∧ RR r139_1 [oo 4 (oM 0), oo 5 (oN 4 28), oo 6 (oL 3 1), oo 7 (oB .geq 3 5 6), oo 3 (oG 7)] ∧ FinF T 139 [.tmp 3] false := by refine ⟨runR T ?_, runR T ?_, finI T (F := Tryz.f139) ?_ ?_ ?_⟩ <;> kernel_rfl
def r140_0 := nv 2 Tryz.f140
def r140_1 := nv 6 Tryz.f140
theorem ent140 : Ent T 140 31 (.seq (r140_0) (.seq (r140_1) (.ret))) := entI T (F := Tryz.f140) (by kernel_rfl) (by kernel_rfl) (by kernel_rfl)
@[go_sem ↓] theorem run140 : RR r140_0 [oo 2 (.box 100 (.tmp 0)), oo 3 (oi 0)] ∧ RD r140_1 140 [oo 4 (oF 100 2 0), oo 5 (oL 3 4), oo 6 (oC .lss 3 5 0), oo 7 (oM 6), of 8 (oF 100 2 0) 7, of 9 (oL 3 8) 7, of 10 (oF 34 1 0) 7, of 11 (oL 22 10) 7, of 12 (oN 11 22) 7, of 13 (oB .geq 3 9 12) 7, oo 14 (.pick (.tmp 7) (.const (.bool true)) (.tmp 13)), oo 15 (oM 14), of 16 (oF 100 2 1) 15, of 17 (oL 3 16) 15, of 18 (oC .lss 3 17 0) 15, oo 19 (.pick (.tmp 15) (.const (.bool true)) (.tmp 18)), oo 20 (oM 19), of 21 (oF 100 2 1) 20, of 22 (oL 3 21) 20, of 23 (oF 34 1 0) 20, of 24 (oL 22 23) 20, of 25 (.indexAddr 22 (.tmp 24) (.const (.int .i64 0))) 20, of 26 (oL 28 25) 20, of 27 (oN 26 28) 20, of 28 (oB .geq 3 22 27) 20, oo 29 (.pick (.tmp 20) (.const (.bool true)) (.tmp 28)), oo 30 (.call ⟨.value (.func 115), #[.tmp 29, .const (.int .i64 10)], #[4, 29]⟩), oo 3 (oG 30)] [(4, 6), (5, 6), (4, 7), (5, 7), (4, 8), (5, 8), (17, 19), (18, 19), (17, 20), (18, 20), (17, 21), (18, 21), (17, 22), (18, 22), (17, 23), (18, 23)] ∧ FinF T 140 [.tmp 3] false := by refine ⟨runR T ?_, runD T (id := 1) ?_ ?_, finI T (F := Tryz.f140) ?_ ?_ ?_⟩ <;> kernel_rfl
def r141_0 := nv 2 Tryz.f141
def r141_1 := nv 6 Tryz.f141
def r141_2 := nv 28 Tryz.f141
def b141_0 := nv 116 Tryz.f141
def r141_3 := nv 232 Tryz.f141
def r141_4 := nv 3736 Tryz.f141
def r141_5 := nv 3737 Tryz.f141
def r141_6 := nv 935 Tryz.f141
def r141_7 := nv 30 Tryz.f141
theorem ent141 : Ent T 141 22 (.seq (r141_0) (.seq (r141_1) (.seq (.seq (r141_2) (.block 0 (.loop b141_0))) (.seq (r141_7) (.ret))))) := entI T (F := Tryz.f141) (by kernel_rfl) (by kernel_rfl) (by kernel_rfl)
@[go_sem ↓] theorem run141 : RR r141_0 [oo 4 on] ∧ RR r141_1 [oo 5 on] ∧ RR r141_2 [oo 8 (oM 0), oo 9 (oN 8 48), oo 10 (.move (.const (.int .i64 0)))] ∧ RR r141_3 [oo 11 (oB .lss 3 10 9)] ∧ RR r141_4 [oo 12 (oI 48 8 10), oo 13 (oL 100 12), oo 7 (.alloc 100), ow 100 7 13] ∧ RR r141_5 [oo 14 (oM 5), oo 15 (oM 1), oo 16 (oL 100 7), oo 17 (.call ⟨.value (.tmp 15), #[.tmp 16], #[100]⟩), oo 18 (oS 187 17), oo 19 (oA 14 18 187), oo 5 (oG 19)] ∧ RR r141_6 [oo 20 (oC .add 3 10 1), oo 10 (oM 20)] ∧ RI b141_0 (.seq (r141_3) (.seq (.cond (.tmp 11) (.skip) (.exit 0)) (.seq (.block 1 (.seq (r141_4) (r141_5))) (r141_6)))) ∧ KeepS T 141 b141_0 [1, 5, 8, 9, 10] ∧ RR r141_7 [oo 21 (oM 5), oo 4 (oG 21)] ∧ FinF T 141 [.tmp 4] false := by refine ⟨runR T ?_, runR T ?_, runR T ?_, runR T ?_, runR T ?_, runR T ?_, runR T ?_, runIc T ?_, keepS T ?_, runR T ?_, finI T (F := Tryz.f141) ?_ ?_ ?_⟩ <;> kernel_rfl
def r142_0 := nv 2 Tryz.f142
def r142_1 := nv 6 Tryz.f142
theorem ent142 : Ent T 142 11 (.seq (r142_0) (.seq (r142_1) (.ret))) := entI T (F := Tryz.f142) (by kernel_rfl) (by kernel_rfl) (by kernel_rfl)
@[go_sem ↓] theorem run142 : RR r142_0 [oo 3 (.box 100 (.tmp 0)), oo 4 (.assign (.const (.bool false)))] ∧ RD r142_1 142 [oo 5 (oL 100 3), oo 6 (oL 48 1), oo 7 (oL 3 2), oo 8 (oI 48 6 7), oo 9 (oL 100 8), oo 10 (oB .eql 100 5 9), oo 4 (oG 10)] [(0, 1), (0, 2), (1, 2), (0, 3), (0, 4)] ∧ FinF T 142 [.tmp 4] false := by refine ⟨runR T ?_, runD T (id := 1) ?_ ?_, finI T (F := Tryz.f142) ?_ ?_ ?_⟩ <;> kernel_rfl
@[go_sem] theorem fr211 : Fct T 211 false none false ∧ Res1 T 211 3 := by refine ⟨⟨?_, ?_, ?_⟩, res1 T (F := Tryz.f211) ?_ ?_⟩ <;> kernel_rfl
def r143_0 := nv 2 Tryz.f143
def r143_1 := nv 6 Tryz.f143
theorem ent143 : Ent T 143 9 (.seq (r143_0) (.seq (r143_1) (.ret))) := entI T (F := Tryz.f143) (by kernel_rfl) (by kernel_rfl) (by kernel_rfl)
@[go_sem ↓] theorem run143 : RR r143_0 [oo 4 (.assign (.const (.bool false)))] ∧ RR r143_1 [oo 5 (oM 0), oo 6 (oM 1), oo 7 (o2 211 5 6 48 215), oo 8 (oC .geq 3 7 0), oo 4 (oG 8)] ∧ FinF T 143 [.tmp 4] false := by refine ⟨runR T ?_, runR T ?_, finI T (F := Tryz.f143) ?_ ?_ ?_⟩ <;> kernel_rfl
def r144_0 := nv 2 Tryz.f144
def r144_1 := nv 6 Tryz.f144
def r144_2 := nv 14 Tryz.f144
def r144_3 := nv 60 Tryz.f144
def b144_0 := nv 244 Tryz.f144
def r144_4 := nv 976 Tryz.f144
def r144_6 := nv 3912 Tryz.f144
def r144_7 := nv 7826 Tryz.f144
def r144_5 := nv 979 Tryz.f144
def r144_8 := nv 62 Tryz.f144
theorem ent144 : Ent T 144 33 (.seq (r144_0) (.seq (r144_1) (.seq (r144_2) (.seq (.seq (r144_3) (.block 0 (.loop b144_0))) (.seq (r144_8) (.ret)))))) := entI T (F := Tryz.f144) (by kernel_rfl) (by kernel_rfl) (by kernel_rfl)
@[go_sem ↓] theorem run144 : RR r144_0 [oo 2 (.box 25 (.tmp 0)), oo 4 on] ∧ RR r144_1 [oo 5 on] ∧ RR r144_2 [oo 8 (oF 25 2 2), oo 9 (oL 23 8), oo 10 (oN 9 23), oo 11 (o1 134 10 3), oo 6 (oG 11)] ∧ RR r144_3 [oo 7 (oi 0)] ∧ RR r144_4 [oo 12 (oM 7), oo 13 (oM 6), oo 14 (oN 13 22), oo 15 (oB .lss 3 12 14)] ∧ RR r144_6 [oo 18 (oM 6), oo 19 (oM 7), oo 20 (oI 22 18 19), oo 21 (oL 28 20), oo 22 (oN 21 28), oo 23 (oM 1), oo 24 (oB .lss 3 22 23)] ∧ RR r144_7 [oo 25 (oM 5), oo 26 (oM 6), oo 27 (oM 7), oo 28 (oI 22 26 27), oo 29 (oL 28 28), oo 30 (oS 22 29), oo 31 (oA 25 30 22), oo 5 (oG 31)] ∧ RR r144_5 [oo 16 (oM 7), oo 17 (oC .add 3 16 1), oo 7 (oG 17)] ∧ RI b144_0 (.seq (.seq (r144_4) (.cond (.tmp 15) (.skip) (.exit 0))) (.seq (.block 1 (.seq (r144_6) (.cond (.tmp 24) (r144_7) (.skip)))) (r144_5))) ∧ KeepS T 144 b144_0 [1, 5, 6, 7] ∧ RR r144_8 [oo 32 (oM 5), oo 4 (oG 32)] ∧ FinF T 144 [.tmp 4] false := by refine ⟨runR T ?_, runR T ?_, runR T ?_, runR T ?_, runR T ?_, runR T ?_, runR T ?_, runR T ?_, runIc T ?_, keepS T ?_, runR T ?_, finI T (F := Tryz.f144) ?_ ?_ ?_⟩ <;> kernel_rfl
def r210_0 := nv 2 Tryz.f210
def r210_1 := nv 12 Tryz.f210
def a210_0 := nv 52 Tryz.f210
def c210_0 := nv 53 Tryz.f210
def r210_2 := nv 52 Tryz.f210
def r210_3 := nv 106 Tryz.f210
def r210_4 := nv 14 Tryz.f210
theorem ent210 : Ent T 210 13 (.seq (r210_0) (.seq (.seq (r210_1) (.block 0 (.rangeFunc (.tmp 6) #[7] a210_0 c210_0))) (.seq (r210_4) (.ret)))) := entI T (F := Tryz.f210) (by kernel_rfl) (by kernel_rfl) (by kernel_rfl)
@[go_sem ↓] theorem run210 : RR r210_0 [oo 2 (.box 22 (.tmp 0)), oo 4 on] ∧ RR r210_1 [oo 6 (oM 1)] ∧ RR r210_2 [oo 5 (oG 7)] ∧ RR r210_3 [oo 8 (oL 22 2), oo 9 (oM 5), oo 10 (oS 22 9), oo 11 (oA 8 10 22), ow 22 2 11] ∧ RI a210_0 (r210_2) ∧ RI c210_0 (.block 1 (r210_3)) ∧ RR r210_4 [oo 12 (oL 22 2), oo 4 (oG 12)] ∧ FinF T 210 [.tmp 4] true := by refine ⟨runR T ?_, runR T ?_, runR T ?_, runR T ?_, runIc T ?_, runIc T ?_, runR T ?_, finI T (F := Tryz.f210) ?_ ?_ ?_⟩ <;> kernel_rfl
def r211_0 := nv 2 Tryz.f211
def r211_1 := nv 12 Tryz.f211
def b211_0 := nv 52 Tryz.f211
def r211_2 := nv 104 Tryz.f211
def r211_3 := nv 1688 Tryz.f211
def r211_4 := nv 3378 Tryz.f211
def r211_5 := nv 13516 Tryz.f211
def r211_6 := nv 423 Tryz.f211
def r211_7 := nv 14 Tryz.f211
theorem ent211 : Ent T 211 19 (.seq (r211_0) (.seq (.seq (r211_1) (.block 0 (.loop b211_0))) (.seq (r211_7) (.ret)))) := entI T (F := Tryz.f211) (by kernel_rfl) (by kernel_rfl) (by kernel_rfl)
@[go_sem ↓] theorem run211 : RR r211_0 [oo 4 (oi 0)] ∧ RR r211_1 [oo 6 (oM 0), oo 7 (oN 6 48), oo 8 (.move (.const (.int .i64 0)))] ∧ RR r211_2 [oo 9 (oB .lss 3 8 7)] ∧ RR r211_3 [oo 10 (oM 8), oo 5 (oG 10)] ∧ RR r211_4 [oo 11 (oM 1), oo 12 (oM 0), oo 13 (oM 5), oo 14 (oI 48 12 13), oo 15 (oL 100 14), oo 16 (.call ⟨.value (.tmp 11), #[.tmp 15], #[100]⟩)] ∧ RR r211_5 [oo 17 (oM 5), oo 4 (oG 17)] ∧ RR r211_6 [oo 18 (oC .add 3 8 1), oo 8 (oM 18)] ∧ RI b211_0 (.seq (r211_2) (.seq (.cond (.tmp 9) (.skip) (.exit 0)) (.seq (.block 1 (.seq (r211_3) (.seq (r211_4) (.cond (.tmp 16) (.seq (r211_5) (.ret)) (.skip))))) (r211_6)))) ∧ KeepS T 211 b211_0 [0, 1, 7, 8] ∧ RR r211_7 [oo 4 (oi (-1))] ∧ FinF T 211 [.tmp 4] false := by refine ⟨runR T ?_, runR T ?_, runR T ?_, runR T ?_, runR T ?_, runR T ?_, runR T ?_, runIc T ?_, keepS T ?_, runR T ?_, finI T (F := Tryz.f211) ?_ ?_ ?_⟩ <;> kernel_rfl
end Go.Den.FaT
end
