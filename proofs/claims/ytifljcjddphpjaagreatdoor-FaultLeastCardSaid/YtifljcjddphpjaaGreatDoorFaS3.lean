import Derived.Test.YtifljcjddphpjaaGreatDoorFaTab
import Derived.Test.YtifljcjddphpjaaGreatDoorZQ
import Derived.Test.YtifljcjddphpjaaGreatDoorFaS0
import Derived.Test.YtifljcjddphpjaaGreatDoorFaS1
import Derived.Test.YtifljcjddphpjaaGreatDoorFaS2
set_option linter.all false
set_option maxHeartbeats 8000000
set_option maxRecDepth 100000
noncomputable section
namespace Go.Den.FaT
open Go Go.Proofs Go.Den
@[go_sem] theorem fr205 : Fct T 205 false none false ∧ Res1 T 205 3 := by refine ⟨⟨?_, ?_, ?_⟩, res1 T (F := Tryz.f205) ?_ ?_⟩ <;> kernel_rfl
@[go_sem] theorem fr206 : Fct T 206 false none false ∧ Res1 T 206 3 := by refine ⟨⟨?_, ?_, ?_⟩, res1 T (F := Tryz.f206) ?_ ?_⟩ <;> kernel_rfl
@[go_sem] theorem fr207 : Fct T 207 false none false ∧ Res1 T 207 3 := by refine ⟨⟨?_, ?_, ?_⟩, res1 T (F := Tryz.f207) ?_ ?_⟩ <;> kernel_rfl
@[go_sem] theorem fr208 : Fct T 208 false none false ∧ Res1 T 208 3 := by refine ⟨⟨?_, ?_, ?_⟩, res1 T (F := Tryz.f208) ?_ ?_⟩ <;> kernel_rfl
def r205_0 := nv 2 Tryz.f205
def r205_1 := nv 6 Tryz.f205
theorem ent205 : Ent T 205 15 (.seq (r205_0) (.seq (r205_1) (.ret))) := entI T (F := Tryz.f205) (by kernel_rfl) (by kernel_rfl) (by kernel_rfl)
@[go_sem ↓] theorem run205 : RR r205_0 [oo 4 (oi 0)] ∧ RR r205_1 [oo 5 (oM 0), oo 6 (oN 5 28), oo 7 (oM 1), oo 8 (oN 7 28), oo 9 (o2 207 6 8 3 3), oo 10 (oM 0), oo 11 (oM 1), oo 12 (o2 208 10 11 28 28), oo 13 (.buildSlice 28 2 #[(0, .tmp 9), (1, .tmp 12)]), oo 14 (o1 206 13 28), oo 4 (oG 14)] ∧ FinF T 205 [.tmp 4] false := by refine ⟨runR T ?_, runR T ?_, finI T (F := Tryz.f205) ?_ ?_ ?_⟩ <;> kernel_rfl
def r206_0 := nv 2 Tryz.f206
def r206_1 := nv 6 Tryz.f206
def r206_2 := nv 28 Tryz.f206
def b206_0 := nv 116 Tryz.f206
def r206_3 := nv 232 Tryz.f206
def r206_4 := nv 3736 Tryz.f206
def r206_5 := nv 7474 Tryz.f206
def r206_6 := nv 29900 Tryz.f206
def r206_7 := nv 935 Tryz.f206
def r206_8 := nv 30 Tryz.f206
theorem ent206 : Ent T 206 18 (.seq (r206_0) (.seq (r206_1) (.seq (.seq (r206_2) (.block 0 (.loop b206_0))) (.seq (r206_8) (.ret))))) := entI T (F := Tryz.f206) (by kernel_rfl) (by kernel_rfl) (by kernel_rfl)
@[go_sem ↓] theorem run206 : RR r206_0 [oo 2 (oi 0)] ∧ RR r206_1 [oo 3 (oi 0)] ∧ RR r206_2 [oo 6 (oM 0), oo 7 (oN 6 28), oo 8 (.move (.const (.int .i64 0)))] ∧ RR r206_3 [oo 9 (oB .lss 3 8 7)] ∧ RR r206_4 [oo 10 (oI 28 6 8), oo 11 (oL 3 10), oo 5 (oG 11)] ∧ RR r206_5 [oo 12 (oM 5), oo 13 (oM 3), oo 14 (oB .neq 3 12 13)] ∧ RR r206_6 [oo 15 (oM 5), oo 2 (oG 15)] ∧ RR r206_7 [oo 16 (oC .add 3 8 1), oo 8 (oM 16)] ∧ RI b206_0 (.seq (r206_3) (.seq (.cond (.tmp 9) (.skip) (.exit 0)) (.seq (.block 1 (.seq (r206_4) (.seq (r206_5) (.cond (.tmp 14) (.seq (r206_6) (.ret)) (.skip))))) (r206_7)))) ∧ KeepS T 206 b206_0 [3, 6, 7, 8] ∧ RR r206_8 [oo 17 (oM 3), oo 2 (oG 17)] ∧ FinF T 206 [.tmp 2] false := by refine ⟨runR T ?_, runR T ?_, runR T ?_, runR T ?_, runR T ?_, runR T ?_, runR T ?_, runR T ?_, runIc T ?_, keepS T ?_, runR T ?_, finI T (F := Tryz.f206) ?_ ?_ ?_⟩ <;> kernel_rfl
def r207_0 := nv 2 Tryz.f207
def r207_1 := nv 6 Tryz.f207
def r207_2 := nv 14 Tryz.f207
def r207_3 := nv 60 Tryz.f207
def r207_4 := nv 488 Tryz.f207
def r207_5 := nv 1956 Tryz.f207
def r207_6 := nv 490 Tryz.f207
def r207_7 := nv 124 Tryz.f207
def r207_8 := nv 500 Tryz.f207
def r207_9 := nv 252 Tryz.f207
def r207_10 := nv 1012 Tryz.f207
def r207_11 := nv 508 Tryz.f207
def r207_12 := nv 2036 Tryz.f207
def r207_13 := nv 510 Tryz.f207
theorem ent207 : Ent T 207 20 (.seq (r207_0) (.seq (r207_1) (.seq (r207_2) (.seq (.seq (r207_3) (.cond (.tmp 11) (.seq (.seq (r207_4) (.cond (.tmp 12) (.seq (r207_5) (.ret)) (.skip))) (.seq (r207_6) (.ret))) (.skip))) (.seq (.seq (r207_7) (.cond (.tmp 13) (.seq (r207_8) (.ret)) (.skip))) (.seq (.seq (r207_9) (.cond (.tmp 16) (.seq (r207_10) (.ret)) (.skip))) (.seq (.seq (r207_11) (.cond (.tmp 19) (.seq (r207_12) (.ret)) (.skip))) (.seq (r207_13) (.ret))))))))) := entI T (F := Tryz.f207) (by kernel_rfl) (by kernel_rfl) (by kernel_rfl)
@[go_sem ↓] theorem run207 : RR r207_0 [oo 4 (oi 0)] ∧ RR r207_1 [oo 7 (oM 0), oo 8 (o1 234 7 3), oo 5 (oG 8)] ∧ RR r207_2 [oo 9 (oM 1), oo 10 (o1 234 9 3), oo 6 (oG 10)] ∧ RR r207_3 [oo 11 (oM 5)] ∧ RR r207_4 [oo 12 (oM 6)] ∧ RR r207_5 [oo 4 (oi 0)] ∧ RR r207_6 [oo 4 (oi (-1))] ∧ RR r207_7 [oo 13 (oM 6)] ∧ RR r207_8 [oo 4 (oi 1)] ∧ RR r207_9 [oo 14 (oM 0), oo 15 (oM 1), oo 16 (oB .lss 3 14 15)] ∧ RR r207_10 [oo 4 (oi (-1))] ∧ RR r207_11 [oo 17 (oM 0), oo 18 (oM 1), oo 19 (oB .gtr 3 17 18)] ∧ RR r207_12 [oo 4 (oi 1)] ∧ RR r207_13 [oo 4 (oi 0)] ∧ FinF T 207 [.tmp 4] false := by refine ⟨runR T ?_, runR T ?_, runR T ?_, runR T ?_, runR T ?_, runR T ?_, runR T ?_, runR T ?_, runR T ?_, runR T ?_, runR T ?_, runR T ?_, runR T ?_, runR T ?_, finI T (F := Tryz.f207) ?_ ?_ ?_⟩ <;> kernel_rfl
def r208_0 := nv 2 Tryz.f208
def r208_1 := nv 12 Tryz.f208
def b208_0 := nv 52 Tryz.f208
def r208_2 := nv 104 Tryz.f208
def r208_3 := nv 1688 Tryz.f208
def r208_4 := nv 6756 Tryz.f208
def r208_5 := nv 27028 Tryz.f208
def r208_6 := nv 6758 Tryz.f208
def r208_7 := nv 13518 Tryz.f208
def r208_8 := nv 27038 Tryz.f208
def r208_9 := nv 108156 Tryz.f208
def r208_10 := nv 423 Tryz.f208
def r208_11 := nv 28 Tryz.f208
def r208_12 := nv 116 Tryz.f208
def r208_13 := nv 30 Tryz.f208
theorem ent208 : Ent T 208 36 (.seq (r208_0) (.seq (.seq (r208_1) (.block 0 (.loop b208_0))) (.seq (.seq (r208_11) (.cond (.tmp 35) (.seq (r208_12) (.ret)) (.skip))) (.seq (r208_13) (.ret))))) := entI T (F := Tryz.f208) (by kernel_rfl) (by kernel_rfl) (by kernel_rfl)
@[go_sem ↓] theorem run208 : RR r208_0 [oo 4 (oi 0)] ∧ RR r208_1 [oo 9 (oM 0), oo 10 (oN 9 28), oo 11 (.move (.const (.int .i64 0)))] ∧ RR r208_2 [oo 12 (oB .lss 3 11 10)] ∧ RR r208_3 [oo 13 (oM 11), oo 14 (oI 28 9 11), oo 15 (oL 3 14), oo 5 (oG 13), oo 6 (oG 15)] ∧ RR r208_4 [oo 16 (oM 5), oo 17 (oM 1), oo 18 (oN 17 28), oo 19 (oB .geq 3 16 18)] ∧ RR r208_5 [oo 4 (oi 1)] ∧ RR r208_6 [oo 20 (oM 1), oo 21 (oM 5), oo 22 (oI 28 20 21), oo 23 (oL 3 22), oo 7 (oG 23)] ∧ RR r208_7 [oo 24 (oM 6), oo 25 (oM 7), oo 26 (o2 207 24 25 3 3), oo 8 (oG 26)] ∧ RR r208_8 [oo 27 (oM 8), oo 28 (oC .neq 3 27 0)] ∧ RR r208_9 [oo 29 (oM 8), oo 4 (oG 29)] ∧ RR r208_10 [oo 30 (oC .add 3 11 1), oo 11 (oM 30)] ∧ RI b208_0 (.seq (r208_2) (.seq (.cond (.tmp 12) (.skip) (.exit 0)) (.seq (.block 1 (.seq (r208_3) (.seq (.seq (r208_4) (.cond (.tmp 19) (.seq (r208_5) (.ret)) (.skip))) (.seq (r208_6) (.seq (r208_7) (.seq (r208_8) (.cond (.tmp 28) (.seq (r208_9) (.ret)) (.skip)))))))) (r208_10)))) ∧ KeepS T 208 b208_0 [0, 1, 9, 10, 11] ∧ RR r208_11 [oo 31 (oM 0), oo 32 (oN 31 28), oo 33 (oM 1), oo 34 (oN 33 28), oo 35 (oB .lss 3 32 34)] ∧ RR r208_12 [oo 4 (oi (-1))] ∧ RR r208_13 [oo 4 (oi 0)] ∧ FinF T 208 [.tmp 4] false := by refine ⟨runR T ?_, runR T ?_, runR T ?_, runR T ?_, runR T ?_, runR T ?_, runR T ?_, runR T ?_, runR T ?_, runR T ?_, runR T ?_, runIc T ?_, keepS T ?_, runR T ?_, runR T ?_, runR T ?_, finI T (F := Tryz.f208) ?_ ?_ ?_⟩ <;> kernel_rfl
@[go_sem] theorem fr5 : Fct T 5 false none false ∧ Res1 T 5 4 := by refine ⟨⟨?_, ?_, ?_⟩, res1 T (F := Tryz.f5) ?_ ?_⟩ <;> kernel_rfl
@[go_sem] theorem fr36 : Fct T 36 false none false ∧ Res2 T 36 22 29 [] := by refine ⟨⟨?_, ?_, ?_⟩, res2 T (F := Tryz.f36) ?_ ?_⟩ <;> kernel_rfl
@[go_sem] theorem fr37 : Fct T 37 false none false ∧ Res2 T 37 60 29 [] := by refine ⟨⟨?_, ?_, ?_⟩, res2 T (F := Tryz.f37) ?_ ?_⟩ <;> kernel_rfl
@[go_sem] theorem fr38 : Fct T 38 false none false ∧ Res2 T 38 60 29 [] := by refine ⟨⟨?_, ?_, ?_⟩, res2 T (F := Tryz.f38) ?_ ?_⟩ <;> kernel_rfl
@[go_sem] theorem fr40 : Fct T 40 false none false ∧ Res1 T 40 22 := by refine ⟨⟨?_, ?_, ?_⟩, res1 T (F := Tryz.f40) ?_ ?_⟩ <;> kernel_rfl
@[go_sem] theorem fr41 : Fct T 41 false none false ∧ Res1 T 41 22 := by refine ⟨⟨?_, ?_, ?_⟩, res1 T (F := Tryz.f41) ?_ ?_⟩ <;> kernel_rfl
@[go_sem] theorem fr42 : Fct T 42 false none false ∧ Res1 T 42 60 := by refine ⟨⟨?_, ?_, ?_⟩, res1 T (F := Tryz.f42) ?_ ?_⟩ <;> kernel_rfl
@[go_sem] theorem fr43 : Fct T 43 false none false ∧ Res1 T 43 60 := by refine ⟨⟨?_, ?_, ?_⟩, res1 T (F := Tryz.f43) ?_ ?_⟩ <;> kernel_rfl
@[go_sem] theorem fr44 : Fct T 44 false none false ∧ Res1 T 44 4 := by refine ⟨⟨?_, ?_, ?_⟩, res1 T (F := Tryz.f44) ?_ ?_⟩ <;> kernel_rfl
def r5_0 := nv 2 Tryz.f5
def r5_1 := nv 12 Tryz.f5
def r5_2 := nv 52 Tryz.f5
def r5_3 := nv 14 Tryz.f5
def r5_4 := nv 30 Tryz.f5
def r5_5 := nv 62 Tryz.f5
def r5_6 := nv 126 Tryz.f5
def r5_7 := nv 254 Tryz.f5
def r5_8 := nv 510 Tryz.f5
def r5_9 := nv 2044 Tryz.f5
def r5_10 := nv 4090 Tryz.f5
def r5_11 := nv 4092 Tryz.f5
def r5_12 := nv 8186 Tryz.f5
def r5_13 := nv 4094 Tryz.f5
theorem ent5 : Ent T 5 77 (.seq (r5_0) (.seq (.seq (r5_1) (.cond (.tmp 15) (.seq (r5_2) (.ret)) (.skip))) (.seq (r5_3) (.seq (r5_4) (.seq (r5_5) (.seq (r5_6) (.seq (r5_7) (.seq (r5_8) (.seq (.seq (r5_9) (.cond (.tmp 38) (r5_10) (.skip))) (.seq (.seq (r5_11) (.cond (.tmp 45) (r5_12) (.skip))) (.seq (r5_13) (.ret)))))))))))) := entI T (F := Tryz.f5) (by kernel_rfl) (by kernel_rfl) (by kernel_rfl)
@[go_sem ↓] theorem run5 : RR r5_0 [oo 1 (.box 25 (.tmp 0)), oo 2 (.assign (.const (.bool false)))] ∧ RR r5_1 [oo 13 (oL 25 1), oo 14 (o1 15 13 25), oo 15 (.unOp .not 4 (.tmp 14))] ∧ RR r5_2 [oo 16 (.call ⟨.value (.func 16), #[], #[]⟩), oo 2 (oG 16)] ∧ RR r5_3 [oo 18 (oL 25 1), oo 19 (o1 18 18 25), oo 20 (o1 36 19 34), oo 17 (oM 20), oo 21 (oX 17 0), oo 22 (oX 17 1), oo 3 (oG 21), oo 4 (oG 22)] ∧ RR r5_4 [oo 24 (oL 25 1), oo 25 (o1 18 24 25), oo 26 (o1 37 25 34), oo 23 (oM 26), oo 27 (oX 23 0), oo 28 (oX 23 1), oo 5 (oG 27), oo 6 (oG 28)] ∧ RR r5_5 [oo 30 (oL 25 1), oo 31 (o1 18 30 25), oo 32 (o1 38 31 34), oo 29 (oM 32), oo 33 (oX 29 0), oo 34 (oX 29 1), oo 7 (oG 33), oo 8 (oG 34)] ∧ RR r5_6 [oo 35 (oL 25 1), oo 36 (o1 20 35 25), oo 9 (oG 36)] ∧ RR r5_7 [oo 10 on] ∧ RR r5_8 [oo 11 on, oo 12 on] ∧ RR r5_9 [oo 37 (oM 9), oo 38 (oC .eql 3 37 0)] ∧ RR r5_10 [oo 39 (oL 25 1), oo 40 (o1 40 39 25), oo 41 (oN 40 22), oo 42 (oC .eql 3 41 0), oo 43 (.call ⟨.value (.func 39), #[.tmp 42, .const (.int .i64 18)], #[4, 3]⟩), oo 9 (oG 43)] ∧ RR r5_11 [oo 44 (oM 9), oo 45 (oC .eql 3 44 0)] ∧ RD r5_12 5 [oo 46 (oL 25 1), oo 47 (o1 41 46 25), oo 48 (oL 25 1), oo 49 (o1 42 48 25), oo 50 (oL 25 1), oo 51 (o1 43 50 25), oo 10 (oG 47), oo 11 (oG 49), oo 12 (oG 51)] [(0, 2), (1, 2), (0, 4), (1, 4), (2, 4), (3, 4)] ∧ RR r5_13 [oo 52 (oM 3), oo 53 (oM 10), oo 54 (o2 25 52 53 22 22), oo 55 (oM 54), ot 56 (oM 4) 55, ot 57 (oM 9) 55, ot 58 (oB .eql 3 56 57) 55, oo 59 (.pick (.tmp 55) (.tmp 58) (.const (.bool false))), oo 60 (oM 59), ot 61 (oM 5) 60, ot 62 (oM 6) 60, ot 63 (oM 9) 60, ot 64 (oM 11) 60, ot 65 (.call ⟨.value (.func 44), #[.tmp 61, .tmp 62, .tmp 63, .tmp 64], #[60, 29, 3, 60]⟩) 60, oo 66 (.pick (.tmp 60) (.tmp 65) (.const (.bool false))), oo 67 (oM 66), ot 68 (oM 7) 67, ot 69 (oM 8) 67, ot 70 (oM 9) 67, ot 71 (oM 12) 67, ot 72 (.call ⟨.value (.func 44), #[.tmp 68, .tmp 69, .tmp 70, .tmp 71], #[60, 29, 3, 60]⟩) 67, oo 73 (.pick (.tmp 67) (.tmp 72) (.const (.bool false))), oo 74 (oM 73), ot 75 (.call ⟨.value (.func 16), #[], #[]⟩) 74, oo 76 (.pick (.tmp 74) (.tmp 75) (.const (.bool false))), oo 2 (oG 76)] ∧ FinF T 5 [.tmp 2] false := by refine ⟨runR T ?_, runR T ?_, runR T ?_, runR T ?_, runR T ?_, runR T ?_, runR T ?_, runR T ?_, runR T ?_, runR T ?_, runR T ?_, runR T ?_, runD T (id := 12) ?_ ?_, runR T ?_, finI T (F := Tryz.f5) ?_ ?_ ?_⟩ <;> kernel_rfl
@[go_sem] theorem fr128 : Fct T 128 true none false ∧ Res2 T 128 22 29 [] := by refine ⟨⟨?_, ?_, ?_⟩, res2 T (F := Tryz.f128) ?_ ?_⟩ <;> kernel_rfl
@[go_sem] theorem fct129 : Fct T 129 true none false := ⟨by kernel_rfl, by kernel_rfl, by kernel_rfl⟩
@[go_sem] theorem res129 : Res1 T 129 22 := res1 T (F := Tryz.f129) (by kernel_rfl) (by kernel_rfl)
@[go_sem] theorem fct130 : Fct T 130 true none false := ⟨by kernel_rfl, by kernel_rfl, by kernel_rfl⟩
@[go_sem] theorem res130 : Res1 T 130 4 := res1 T (F := Tryz.f130) (by kernel_rfl) (by kernel_rfl)
def r36_0 := nv 2 Tryz.f36
def r36_1 := nv 6 Tryz.f36
def r36_2 := nv 28 Tryz.f36
def r36_3 := nv 116 Tryz.f36
def r36_4 := nv 30 Tryz.f36
theorem ent36 : Ent T 36 17 (.seq (r36_0) (.seq (r36_1) (.seq (.seq (r36_2) (.cond (.tmp 12) (.seq (r36_3) (.ret)) (.skip))) (.seq (r36_4) (.ret))))) := entI T (F := Tryz.f36) (by kernel_rfl) (by kernel_rfl) (by kernel_rfl)
@[go_sem ↓] theorem run36 : RR r36_0 [oo 1 (.box 34 (.tmp 0)), oo 2 on, oo 3 (oi 0)] ∧ RR r36_1 [oo 7 (oL 34 1), oo 8 (o1 128 7 34), oo 6 (oM 8), oo 9 (oX 6 0), oo 10 (oX 6 1), oo 4 (.alloc 22), ow 22 4 9, oo 5 (oG 10)] ∧ RR r36_2 [oo 11 (oM 5), oo 12 (oC .neq 29 11 0)] ∧ RR r36_3 [oo 13 (oM 5), oo 2 on, oo 3 (oG 13)] ∧ RR r36_4 [oo 14 (oL 22 4), oo 15 (.makeFunc (.func 130) #[] #[.tmp 4]), oo 16 (o2 129 14 15 22 201), oo 2 (oG 16), oo 3 (oi 0)] ∧ FinF T 36 [.tmp 2, .tmp 3] false := by refine ⟨runR T ?_, runR T ?_, runR T ?_, runR T ?_, runR T ?_, finI T (F := Tryz.f36) ?_ ?_ ?_⟩ <;> kernel_rfl
@[go_sem] theorem fr131 : Fct T 131 false none false ∧ Res2 T 131 60 29 [] := by refine ⟨⟨?_, ?_, ?_⟩, res2 T (F := Tryz.f131) ?_ ?_⟩ <;> kernel_rfl
@[go_sem] theorem fct132 : Fct T 132 false none false := ⟨by kernel_rfl, by kernel_rfl, by kernel_rfl⟩
@[go_sem] theorem res132 : Res1 T 132 4 := res1 T (F := Tryz.f132) (by kernel_rfl) (by kernel_rfl)
def r37_0 := nv 2 Tryz.f37
def r37_1 := nv 6 Tryz.f37
theorem ent37 : Ent T 37 8 (.seq (r37_0) (.seq (r37_1) (.ret))) := entI T (F := Tryz.f37) (by kernel_rfl) (by kernel_rfl) (by kernel_rfl)
@[go_sem ↓] theorem run37 : RR r37_0 [oo 1 (.box 34 (.tmp 0)), oo 2 on, oo 3 (oi 0)] ∧ RR r37_1 [oo 4 (oL 34 1), oo 5 (.call ⟨.value (.func 131), #[.tmp 4, .func 132], #[34, 205]⟩), oo 6 (oX 5 0), oo 7 (oX 5 1), oo 2 (oG 6), oo 3 (oG 7)] ∧ FinF T 37 [.tmp 2, .tmp 3] false := by refine ⟨runR T ?_, runR T ?_, finI T (F := Tryz.f37) ?_ ?_ ?_⟩ <;> kernel_rfl
@[go_sem] theorem fct133 : Fct T 133 false none false := ⟨by kernel_rfl, by kernel_rfl, by kernel_rfl⟩
@[go_sem] theorem res133 : Res1 T 133 4 := res1 T (F := Tryz.f133) (by kernel_rfl) (by kernel_rfl)
def r38_0 := nv 2 Tryz.f38
def r38_1 := nv 6 Tryz.f38
theorem ent38 : Ent T 38 8 (.seq (r38_0) (.seq (r38_1) (.ret))) := entI T (F := Tryz.f38) (by kernel_rfl) (by kernel_rfl) (by kernel_rfl)
@[go_sem ↓] theorem run38 : RR r38_0 [oo 1 (.box 34 (.tmp 0)), oo 2 on, oo 3 (oi 0)] ∧ RR r38_1 [oo 4 (oL 34 1), oo 5 (.call ⟨.value (.func 131), #[.tmp 4, .func 133], #[34, 205]⟩), oo 6 (oX 5 0), oo 7 (oX 5 1), oo 2 (oG 6), oo 3 (oG 7)] ∧ FinF T 38 [.tmp 2, .tmp 3] false := by refine ⟨runR T ?_, runR T ?_, finI T (F := Tryz.f38) ?_ ?_ ?_⟩ <;> kernel_rfl
@[go_sem] theorem fr134 : Fct T 134 false none false ∧ Res1 T 134 22 := by refine ⟨⟨?_, ?_, ?_⟩, res1 T (F := Tryz.f134) ?_ ?_⟩ <;> kernel_rfl
def r40_0 := nv 2 Tryz.f40
def r40_1 := nv 6 Tryz.f40
def r40_2 := nv 14 Tryz.f40
def r40_3 := nv 60 Tryz.f40
def b40_0 := nv 244 Tryz.f40
def r40_4 := nv 976 Tryz.f40
def r40_6 := nv 3912 Tryz.f40
def r40_7 := nv 7826 Tryz.f40
def r40_5 := nv 979 Tryz.f40
def r40_8 := nv 62 Tryz.f40
theorem ent40 : Ent T 40 32 (.seq (r40_0) (.seq (r40_1) (.seq (r40_2) (.seq (.seq (r40_3) (.block 0 (.loop b40_0))) (.seq (r40_8) (.ret)))))) := entI T (F := Tryz.f40) (by kernel_rfl) (by kernel_rfl) (by kernel_rfl)
@[go_sem ↓] theorem run40 : RR r40_0 [oo 1 (.box 25 (.tmp 0)), oo 2 on] ∧ RR r40_1 [oo 3 on] ∧ RR r40_2 [oo 6 (oF 25 1 2), oo 7 (oL 23 6), oo 8 (oN 7 23), oo 9 (o1 134 8 3), oo 4 (oG 9)] ∧ RR r40_3 [oo 5 (oi 0)] ∧ RR r40_4 [oo 10 (oM 5), oo 11 (oM 4), oo 12 (oN 11 22), oo 13 (oB .lss 3 10 12)] ∧ RD r40_6 40 [oo 16 (oL 25 1), oo 17 (oM 4), oo 18 (oM 5), oo 19 (oI 22 17 18), oo 20 (oL 28 19), oo 21 (o2 33 16 20 25 28), oo 22 (oN 21 48), oo 23 (oC .eql 3 22 0)] [(0, 1), (0, 2), (1, 2), (0, 3), (0, 4)] ∧ RR r40_7 [oo 24 (oM 3), oo 25 (oM 4), oo 26 (oM 5), oo 27 (oI 22 25 26), oo 28 (oL 28 27), oo 29 (oS 22 28), oo 30 (oA 24 29 22), oo 3 (oG 30)] ∧ RR r40_5 [oo 14 (oM 5), oo 15 (oC .add 3 14 1), oo 5 (oG 15)] ∧ RI b40_0 (.seq (.seq (r40_4) (.cond (.tmp 13) (.skip) (.exit 0))) (.seq (.block 1 (.seq (r40_6) (.cond (.tmp 23) (r40_7) (.skip)))) (r40_5))) ∧ KeepS T 40 b40_0 [1, 3, 4, 5] ∧ RR r40_8 [oo 31 (oM 3), oo 2 (oG 31)] ∧ FinF T 40 [.tmp 2] false := by refine ⟨runR T ?_, runR T ?_, runR T ?_, runR T ?_, runR T ?_, runD T (id := 6) ?_ ?_, runR T ?_, runR T ?_, runIc T ?_, keepS T ?_, runR T ?_, finI T (F := Tryz.f40) ?_ ?_ ?_⟩ <;> kernel_rfl
def r41_0 := nv 2 Tryz.f41
def r41_1 := nv 6 Tryz.f41
def r41_2 := nv 14 Tryz.f41
def r41_3 := nv 60 Tryz.f41
def b41_0 := nv 244 Tryz.f41
def r41_4 := nv 976 Tryz.f41
def r41_6 := nv 3912 Tryz.f41
def r41_7 := nv 7826 Tryz.f41
def r41_5 := nv 979 Tryz.f41
def r41_8 := nv 62 Tryz.f41
theorem ent41 : Ent T 41 32 (.seq (r41_0) (.seq (r41_1) (.seq (r41_2) (.seq (.seq (r41_3) (.block 0 (.loop b41_0))) (.seq (r41_8) (.ret)))))) := entI T (F := Tryz.f41) (by kernel_rfl) (by kernel_rfl) (by kernel_rfl)
@[go_sem ↓] theorem run41 : RR r41_0 [oo 1 (.box 25 (.tmp 0)), oo 2 on] ∧ RR r41_1 [oo 3 on] ∧ RR r41_2 [oo 6 (oL 25 1), oo 7 (o1 40 6 25), oo 4 (oG 7)] ∧ RR r41_3 [oo 5 (oi 0)] ∧ RR r41_4 [oo 8 (oM 5), oo 9 (oM 4), oo 10 (oN 9 22), oo 11 (oB .lss 3 8 10)] ∧ RD r41_6 41 [oo 14 (oM 4), oo 15 (oM 5), oo 16 (oI 22 14 15), oo 17 (oL 28 16), oo 18 (oN 17 28), oo 19 (oM 4), oo 20 (.indexAddr 22 (.tmp 19) (.const (.int .i64 0))), oo 21 (oL 28 20), oo 22 (oN 21 28), oo 23 (oB .eql 3 18 22)] [(0, 1), (0, 5), (1, 5), (2, 5), (3, 5), (4, 5), (0, 6), (1, 6), (2, 6), (3, 6), (4, 6), (0, 7), (1, 7), (2, 7), (3, 7), (4, 7), (0, 8), (1, 8), (2, 8), (3, 8), (4, 8)] ∧ RR r41_7 [oo 24 (oM 3), oo 25 (oM 4), oo 26 (oM 5), oo 27 (oI 22 25 26), oo 28 (oL 28 27), oo 29 (oS 22 28), oo 30 (oA 24 29 22), oo 3 (oG 30)] ∧ RR r41_5 [oo 12 (oM 5), oo 13 (oC .add 3 12 1), oo 5 (oG 13)] ∧ RI b41_0 (.seq (.seq (r41_4) (.cond (.tmp 11) (.skip) (.exit 0))) (.seq (.block 1 (.seq (r41_6) (.cond (.tmp 23) (r41_7) (.skip)))) (r41_5))) ∧ KeepS T 41 b41_0 [3, 4, 5] ∧ RR r41_8 [oo 31 (oM 3), oo 2 (oG 31)] ∧ FinF T 41 [.tmp 2] false := by refine ⟨runR T ?_, runR T ?_, runR T ?_, runR T ?_, runR T ?_, runD T (id := 6) ?_ ?_, runR T ?_, runR T ?_, runIc T ?_, keepS T ?_, runR T ?_, finI T (F := Tryz.f41) ?_ ?_ ?_⟩ <;> kernel_rfl
@[go_sem] theorem fr135 : Fct T 135 false none false ∧ Res1 T 135 3 := by refine ⟨⟨?_, ?_, ?_⟩, res1 T (F := Tryz.f135) ?_ ?_⟩ <;> kernel_rfl
def r42_0 := nv 2 Tryz.f42
def r42_1 := nv 6 Tryz.f42
def r42_2 := nv 14 Tryz.f42
def r42_3 := nv 60 Tryz.f42
def b42_0 := nv 244 Tryz.f42
def r42_4 := nv 976 Tryz.f42
def r42_6 := nv 3912 Tryz.f42
def r42_7 := nv 7826 Tryz.f42
def r42_5 := nv 979 Tryz.f42
def r42_8 := nv 62 Tryz.f42
theorem ent42 : Ent T 42 31 (.seq (r42_0) (.seq (r42_1) (.seq (r42_2) (.seq (.seq (r42_3) (.block 0 (.loop b42_0))) (.seq (r42_8) (.ret)))))) := entI T (F := Tryz.f42) (by kernel_rfl) (by kernel_rfl) (by kernel_rfl)
@[go_sem ↓] theorem run42 : RR r42_0 [oo 1 (.box 25 (.tmp 0)), oo 2 on] ∧ RR r42_1 [oo 3 on] ∧ RR r42_2 [oo 6 (oL 25 1), oo 7 (o1 40 6 25), oo 4 (oG 7)] ∧ RR r42_3 [oo 5 (oi 0)] ∧ RR r42_4 [oo 8 (oM 5), oo 9 (oF 25 1 2), oo 10 (oL 23 9), oo 11 (oN 10 23), oo 12 (oB .lss 3 8 11)] ∧ RR r42_6 [oo 15 (oM 4), oo 16 (oM 5), oo 17 (o2 135 15 16 22 3), oo 18 (oM 4), oo 19 (oN 18 22), oo 20 (oB .eql 3 17 19)] ∧ RR r42_7 [oo 21 (oM 3), oo 22 (oF 25 1 2), oo 23 (oL 23 22), oo 24 (oM 5), oo 25 (oI 23 23 24), oo 26 (oF 140 25 0), oo 27 (oL 9 26), oo 28 (oS 60 27), oo 29 (oA 21 28 60), oo 3 (oG 29)] ∧ RR r42_5 [oo 13 (oM 5), oo 14 (oC .add 3 13 1), oo 5 (oG 14)] ∧ RI b42_0 (.seq (.seq (r42_4) (.cond (.tmp 12) (.skip) (.exit 0))) (.seq (.block 1 (.seq (r42_6) (.cond (.tmp 20) (r42_7) (.skip)))) (r42_5))) ∧ KeepS T 42 b42_0 [1, 3, 4, 5] ∧ RR r42_8 [oo 30 (oM 3), oo 2 (oG 30)] ∧ FinF T 42 [.tmp 2] false := by refine ⟨runR T ?_, runR T ?_, runR T ?_, runR T ?_, runR T ?_, runR T ?_, runR T ?_, runR T ?_, runIc T ?_, keepS T ?_, runR T ?_, finI T (F := Tryz.f42) ?_ ?_ ?_⟩ <;> kernel_rfl
def r43_0 := nv 2 Tryz.f43
def r43_1 := nv 6 Tryz.f43
def r43_2 := nv 14 Tryz.f43
def r43_3 := nv 60 Tryz.f43
def b43_0 := nv 244 Tryz.f43
def r43_4 := nv 976 Tryz.f43
def r43_6 := nv 3912 Tryz.f43
def r43_7 := nv 7826 Tryz.f43
def r43_5 := nv 979 Tryz.f43
def r43_8 := nv 62 Tryz.f43
theorem ent43 : Ent T 43 29 (.seq (r43_0) (.seq (r43_1) (.seq (r43_2) (.seq (.seq (r43_3) (.block 0 (.loop b43_0))) (.seq (r43_8) (.ret)))))) := entI T (F := Tryz.f43) (by kernel_rfl) (by kernel_rfl) (by kernel_rfl)
@[go_sem ↓] theorem run43 : RR r43_0 [oo 1 (.box 25 (.tmp 0)), oo 2 on] ∧ RR r43_1 [oo 3 on] ∧ RR r43_2 [oo 6 (oL 25 1), oo 7 (o1 40 6 25), oo 4 (oG 7)] ∧ RR r43_3 [oo 5 (oi 0)] ∧ RR r43_4 [oo 8 (oM 5), oo 9 (oF 25 1 2), oo 10 (oL 23 9), oo 11 (oN 10 23), oo 12 (oB .lss 3 8 11)] ∧ RR r43_6 [oo 15 (oM 4), oo 16 (oM 5), oo 17 (o2 135 15 16 22 3), oo 18 (oC .gtr 3 17 0)] ∧ RR r43_7 [oo 19 (oM 3), oo 20 (oF 25 1 2), oo 21 (oL 23 20), oo 22 (oM 5), oo 23 (oI 23 21 22), oo 24 (oF 140 23 0), oo 25 (oL 9 24), oo 26 (oS 60 25), oo 27 (oA 19 26 60), oo 3 (oG 27)] ∧ RR r43_5 [oo 13 (oM 5), oo 14 (oC .add 3 13 1), oo 5 (oG 14)] ∧ RI b43_0 (.seq (.seq (r43_4) (.cond (.tmp 12) (.skip) (.exit 0))) (.seq (.block 1 (.seq (r43_6) (.cond (.tmp 18) (r43_7) (.skip)))) (r43_5))) ∧ KeepS T 43 b43_0 [1, 3, 4, 5] ∧ RR r43_8 [oo 28 (oM 3), oo 2 (oG 28)] ∧ FinF T 43 [.tmp 2] false := by refine ⟨runR T ?_, runR T ?_, runR T ?_, runR T ?_, runR T ?_, runR T ?_, runR T ?_, runR T ?_, runIc T ?_, keepS T ?_, runR T ?_, finI T (F := Tryz.f43) ?_ ?_ ?_⟩ <;> kernel_rfl
@[go_sem] theorem fr104 : Fct T 104 false none false ∧ Res1 T 104 4 := by refine ⟨⟨?_, ?_, ?_⟩, res1 T (F := Tryz.f104) ?_ ?_⟩ <;> kernel_rfl
def r44_0 := nv 2 Tryz.f44
def r44_1 := nv 12 Tryz.f44
def r44_2 := nv 26 Tryz.f44
def r44_3 := nv 14 Tryz.f44
theorem ent44 : Ent T 44 19 (.seq (r44_0) (.seq (.seq (r44_1) (.cond (.tmp 10) (r44_2) (.skip))) (.seq (r44_3) (.ret)))) := entI T (F := Tryz.f44) (by kernel_rfl) (by kernel_rfl) (by kernel_rfl)
@[go_sem ↓] theorem run44 : RR r44_0 [oo 8 (.assign (.const (.bool false)))] ∧ RR r44_1 [oo 9 (oM 2), oo 10 (oC .neq 3 9 0)] ∧ RR r44_2 [oo 3 on] ∧ RR r44_3 [oo 11 (oM 0), oo 12 (oM 3), oo 13 (o2 104 11 12 60 60), oo 14 (oM 13), ot 15 (oM 1) 14, ot 16 (oM 2) 14, ot 17 (oB .eql 3 15 16) 14, oo 18 (.pick (.tmp 14) (.tmp 17) (.const (.bool false))), oo 8 (oG 18)] ∧ FinF T 44 [.tmp 8] false := by refine ⟨runR T ?_, runR T ?_, runR T ?_, runR T ?_, finI T (F := Tryz.f44) ?_ ?_ ?_⟩ <;> kernel_rfl
def r104_0 := nv 2 Tryz.f104
def r104_1 := nv 12 Tryz.f104
def r104_2 := nv 52 Tryz.f104
def r104_3 := nv 28 Tryz.f104
def b104_0 := nv 116 Tryz.f104
def r104_4 := nv 464 Tryz.f104
def r104_6 := nv 1864 Tryz.f104
def r104_7 := nv 7460 Tryz.f104
def r104_5 := nv 467 Tryz.f104
def r104_8 := nv 30 Tryz.f104
theorem ent104 : Ent T 104 26 (.seq (r104_0) (.seq (.seq (r104_1) (.cond (.tmp 10) (.seq (r104_2) (.ret)) (.skip))) (.seq (.seq (r104_3) (.block 0 (.loop b104_0))) (.seq (r104_8) (.ret))))) := entI T (F := Tryz.f104) (by kernel_rfl) (by kernel_rfl) (by kernel_rfl)
@[go_sem ↓] theorem run104 : RR r104_0 [oo 4 (.assign (.const (.bool false)))] ∧ RR r104_1 [oo 6 (oM 0), oo 7 (oN 6 60), oo 8 (oM 1), oo 9 (oN 8 60), oo 10 (oB .neq 3 7 9)] ∧ RR r104_2 [oo 4 (.assign (.const (.bool false)))] ∧ RR r104_3 [oo 5 (oi 0)] ∧ RR r104_4 [oo 11 (oM 5), oo 12 (oM 0), oo 13 (oN 12 60), oo 14 (oB .lss 3 11 13)] ∧ RD r104_6 104 [oo 17 (oM 0), oo 18 (oM 5), oo 19 (oI 60 17 18), oo 20 (oL 9 19), oo 21 (oM 1), oo 22 (oM 5), oo 23 (oI 60 21 22), oo 24 (oL 9 23), oo 25 (oB .neq 9 20 24)] [(0, 1), (0, 4), (1, 4), (2, 4), (3, 4), (0, 5), (1, 5), (2, 5), (3, 5), (4, 5), (0, 6), (1, 6), (2, 6), (3, 6), (0, 7), (1, 7), (2, 7), (3, 7)] ∧ RR r104_7 [oo 4 (.assign (.const (.bool false)))] ∧ RR r104_5 [oo 15 (oM 5), oo 16 (oC .add 3 15 1), oo 5 (oG 16)] ∧ RI b104_0 (.seq (.seq (r104_4) (.cond (.tmp 14) (.skip) (.exit 0))) (.seq (.block 1 (.seq (r104_6) (.cond (.tmp 25) (.seq (r104_7) (.ret)) (.skip)))) (r104_5))) ∧ KeepS T 104 b104_0 [0, 1, 5] ∧ RR r104_8 [oo 4 (.assign (.const (.bool true)))] ∧ FinF T 104 [.tmp 4] false := by refine ⟨runR T ?_, runR T ?_, runR T ?_, runR T ?_, runR T ?_, runD T (id := 6) ?_ ?_, runR T ?_, runR T ?_, runIc T ?_, keepS T ?_, runR T ?_, finI T (F := Tryz.f104) ?_ ?_ ?_⟩ <;> kernel_rfl
@[go_sem] theorem fr198 : Fct T 198 true none false ∧ Res1 T 198 22 := by refine ⟨⟨?_, ?_, ?_⟩, res1 T (F := Tryz.f198) ?_ ?_⟩ <;> kernel_rfl
def r128_0 := nv 2 Tryz.f128
def r128_1 := nv 12 Tryz.f128
def r128_2 := nv 26 Tryz.f128
def r128_3 := nv 108 Tryz.f128
def r128_4 := nv 14 Tryz.f128
def r128_5 := nv 30 Tryz.f128
theorem ent128 : Ent T 128 18 (.seq (r128_0) (.seq (.seq (r128_1) (.seq (r128_2) (.cond (.tmp 9) (.seq (r128_3) (.ret)) (.skip)))) (.seq (r128_4) (.seq (r128_5) (.ret))))) := entI T (F := Tryz.f128) (by kernel_rfl) (by kernel_rfl) (by kernel_rfl)
@[go_sem ↓] theorem run128 : RR r128_0 [oo 1 (.box 34 (.tmp 0)), oo 2 on, oo 3 (oi 0)] ∧ RR r128_1 [oo 6 (oL 34 1), oo 7 (o1 23 6 34), oo 4 (oG 7)] ∧ RR r128_2 [oo 8 (oM 4), oo 9 (oC .neq 29 8 0)] ∧ RR r128_3 [oo 10 (oM 4), oo 2 on, oo 3 (oG 10)] ∧ RR r128_4 [oo 11 (oL 34 1), oo 12 (o1 198 11 34), oo 5 (oG 12)] ∧ RR r128_5 [oo 13 (oM 5), oo 14 (oM 5), oo 15 (oN 14 22), oo 16 (oC .eql 3 15 0), oo 17 (.call ⟨.value (.func 115), #[.tmp 16, .const (.int .i64 18)], #[4, 29]⟩), oo 2 (oG 13), oo 3 (oG 17)] ∧ FinF T 128 [.tmp 2, .tmp 3] true := by refine ⟨runR T ?_, runR T ?_, runR T ?_, runR T ?_, runR T ?_, runR T ?_, finI T (F := Tryz.f128) ?_ ?_ ?_⟩ <;> kernel_rfl
@[go_sem] theorem fct199 : Fct T 199 true none false := ⟨by kernel_rfl, by kernel_rfl, by kernel_rfl⟩
@[go_sem] theorem res199 : Res1 T 199 3 := res1 T (F := Tryz.f199) (by kernel_rfl) (by kernel_rfl)
def r129_0 := nv 2 Tryz.f129
def r129_1 := nv 6 Tryz.f129
def r129_2 := nv 28 Tryz.f129
def r129_3 := nv 116 Tryz.f129
def r129_4 := nv 60 Tryz.f129
def b129_0 := nv 244 Tryz.f129
def r129_5 := nv 976 Tryz.f129
def r129_7 := nv 3912 Tryz.f129
def r129_8 := nv 7826 Tryz.f129
def r129_9 := nv 31308 Tryz.f129
def r129_10 := nv 31309 Tryz.f129
def r129_6 := nv 979 Tryz.f129
def r129_11 := nv 62 Tryz.f129
def r129_12 := nv 126 Tryz.f129
theorem ent129 : Ent T 129 42 (.seq (r129_0) (.seq (r129_1) (.seq (.seq (r129_2) (.cond (.tmp 12) (.seq (r129_3) (.ret)) (.skip))) (.seq (.seq (r129_4) (.block 0 (.loop b129_0))) (.seq (r129_11) (.seq (r129_12) (.ret))))))) := entI T (F := Tryz.f129) (by kernel_rfl) (by kernel_rfl) (by kernel_rfl)
@[go_sem ↓] theorem run129 : RR r129_0 [oo 4 on] ∧ RR r129_1 [oo 8 (oM 0), oo 9 (oM 1), oo 10 (o2 199 8 9 22 201), oo 5 (oG 10)] ∧ RR r129_2 [oo 11 (oM 5), oo 12 (oC .eql 3 11 (-1))] ∧ RR r129_3 [oo 13 (oM 0), oo 4 (oG 13)] ∧ RR r129_4 [oo 14 (oM 5), oo 15 (oC .add 3 14 1), oo 6 (oG 15)] ∧ RR r129_5 [oo 16 (oM 6), oo 17 (oM 0), oo 18 (oN 17 22), oo 19 (oB .lss 3 16 18)] ∧ RR r129_7 [oo 22 (oM 0), oo 23 (oM 6), oo 24 (oI 22 22 23), oo 25 (oL 28 24), oo 7 (oG 25)] ∧ RR r129_8 [oo 26 (oM 1), oo 27 (oM 7), oo 28 (.call ⟨.value (.tmp 26), #[.tmp 27], #[28]⟩), oo 29 (.unOp .not 4 (.tmp 28))] ∧ RR r129_9 [oo 30 (oM 0), oo 31 (oM 5), oo 32 (oM 7), oo 33 (oI 22 30 31), ow 28 33 32] ∧ RR r129_10 [oo 34 (oM 5), oo 35 (oC .add 3 34 1), oo 5 (oG 35)] ∧ RR r129_6 [oo 20 (oM 6), oo 21 (oC .add 3 20 1), oo 6 (oG 21)] ∧ RI b129_0 (.seq (.seq (r129_5) (.cond (.tmp 19) (.skip) (.exit 0))) (.seq (.block 1 (.seq (r129_7) (.seq (r129_8) (.cond (.tmp 29) (.seq (r129_9) (r129_10)) (.skip))))) (r129_6))) ∧ KeepS T 129 b129_0 [0, 1, 5, 6] ∧ RR r129_11 [oo 36 (oM 0), oo 37 (oM 5), oo 38 (.slice 22 (.tmp 36) (some (.tmp 37)) none none), ⟨none, .call ⟨.builtin .clear, #[.tmp 38], #[22]⟩, none⟩] ∧ RR r129_12 [oo 39 (oM 0), oo 40 (oM 5), oo 41 (.slice 22 (.tmp 39) none (some (.tmp 40)) none), oo 4 (oG 41)] ∧ FinF T 129 [.tmp 4] true := by refine ⟨runR T ?_, runR T ?_, runR T ?_, runR T ?_, runR T ?_, runR T ?_, runR T ?_, runR T ?_, runR T ?_, runR T ?_, runR T ?_, runIc T ?_, keepS T ?_, runR T ?_, runR T ?_, finI T (F := Tryz.f129) ?_ ?_ ?_⟩ <;> kernel_rfl
def r130_0 := nv 2 Tryz.f130
def r130_1 := nv 6 Tryz.f130
theorem ent130 : Ent T 130 11 (.seq (r130_0) (.seq (r130_1) (.ret))) := entI T (F := Tryz.f130) (by kernel_rfl) (by kernel_rfl) (by kernel_rfl)
@[go_sem ↓] theorem run130 : RR r130_0 [oo 3 (.assign (.const (.bool false)))] ∧ RR r130_1 [oo 4 (oM 0), oo 5 (oN 4 28), oo 6 (oL 22 1), oo 7 (.indexAddr 22 (.tmp 6) (.const (.int .i64 0))), oo 8 (oL 28 7), oo 9 (oN 8 28), oo 10 (oB .gtr 3 5 9), oo 3 (oG 10)] ∧ FinF T 130 [.tmp 3] true := by refine ⟨runR T ?_, runR T ?_, finI T (F := Tryz.f130) ?_ ?_ ?_⟩ <;> kernel_rfl
@[go_sem] theorem fr174 : Fct T 174 false none false ∧ Res1 T 174 60 := by refine ⟨⟨?_, ?_, ?_⟩, res1 T (F := Tryz.f174) ?_ ?_⟩ <;> kernel_rfl
@[go_sem] theorem fr200 : Fct T 200 false none false ∧ Res1 T 200 4 := by refine ⟨⟨?_, ?_, ?_⟩, res1 T (F := Tryz.f200) ?_ ?_⟩ <;> kernel_rfl
@[go_sem] theorem fr201 : Fct T 201 false none false ∧ Res1 T 201 9 := by refine ⟨⟨?_, ?_, ?_⟩, res1 T (F := Tryz.f201) ?_ ?_⟩ <;> kernel_rfl
def r131_0 := nv 2 Tryz.f131
def r131_1 := nv 6 Tryz.f131
def r131_2 := nv 28 Tryz.f131
def r131_3 := nv 116 Tryz.f131
def r131_4 := nv 30 Tryz.f131
def r131_5 := nv 124 Tryz.f131
def b131_0 := nv 500 Tryz.f131
def r131_6 := nv 1000 Tryz.f131
def r131_7 := nv 16024 Tryz.f131
def r131_8 := nv 32050 Tryz.f131
def r131_9 := nv 128204 Tryz.f131
def b131_1 := nv 512820 Tryz.f131
def r131_10 := nv 1025640 Tryz.f131
def r131_11 := nv 16410264 Tryz.f131
def r131_12 := nv 32820530 Tryz.f131
def r131_13 := nv 65641062 Tryz.f131
def r131_14 := nv 4102567 Tryz.f131
def r131_15 := nv 128206 Tryz.f131
def r131_16 := nv 256414 Tryz.f131
def r131_17 := nv 4007 Tryz.f131
def r131_18 := nv 126 Tryz.f131
theorem ent131 : Ent T 131 54 (.seq (r131_0) (.seq (r131_1) (.seq (.seq (r131_2) (.cond (.tmp 20) (.seq (r131_3) (.ret)) (.skip))) (.seq (r131_4) (.seq (.seq (r131_5) (.block 0 (.loop b131_0))) (.seq (r131_18) (.ret))))))) := entI T (F := Tryz.f131) (by kernel_rfl) (by kernel_rfl) (by kernel_rfl)
@[go_sem ↓] theorem run131 : RR r131_0 [oo 2 (.box 34 (.tmp 0)), oo 4 on, oo 5 (oi 0)] ∧ RR r131_1 [oo 15 (oL 34 2), oo 16 (o1 128 15 34), oo 14 (oM 16), oo 17 (oX 14 0), oo 18 (oX 14 1), oo 6 (oG 17), oo 7 (oG 18)] ∧ RR r131_2 [oo 19 (oM 7), oo 20 (oC .neq 29 19 0)] ∧ RR r131_3 [oo 21 (oM 7), oo 4 on, oo 5 (oG 21)] ∧ RR r131_4 [oo 8 on] ∧ RR r131_5 [oo 22 (oF 34 2 2), oo 23 (oL 32 22), oo 24 (oN 23 32), oo 25 (.move (.const (.int .i64 0)))] ∧ RR r131_6 [oo 26 (oB .lss 3 25 24)] ∧ RR r131_7 [oo 27 (oM 25), oo 28 (oI 32 23 25), oo 29 (oL 180 28), oo 10 (.alloc 180), oo 9 (oG 27), ow 180 10 29] ∧ RR r131_8 [oo 11 (oi 0)] ∧ RR r131_9 [oo 30 (oM 6), oo 31 (oN 30 22), oo 32 (.move (.const (.int .i64 0)))] ∧ RR r131_10 [oo 33 (oB .lss 3 32 31)] ∧ RR r131_11 [oo 34 (oI 22 30 32), oo 35 (oL 28 34), oo 13 (oG 35)] ∧ RR r131_12 [oo 36 (oM 13), oo 37 (oM 9), oo 38 (o2 200 36 37 28 3)] ∧ RR r131_13 [oo 39 (oM 11), oo 40 (oC .add 3 39 1), oo 11 (oG 40)] ∧ RR r131_14 [oo 41 (oC .add 3 32 1), oo 32 (oM 41)] ∧ RI b131_1 (.seq (r131_10) (.seq (.cond (.tmp 33) (.skip) (.exit 2)) (.seq (.block 3 (.seq (r131_11) (.seq (r131_12) (.cond (.tmp 38) (r131_13) (.skip))))) (r131_14)))) ∧ KeepS T 131 b131_1 [1, 6, 8, 9, 10, 11, 23, 24, 25, 30, 31, 32] ∧ RR r131_15 [oo 42 (oM 1), oo 43 (oM 11), oo 44 (oM 6), oo 45 (oN 44 22), oo 46 (.call ⟨.value (.tmp 42), #[.tmp 43, .tmp 45], #[3, 3]⟩)] ∧ RR r131_16 [oo 47 (oM 8), oo 48 (oL 180 10), oo 49 (oS 32 48), oo 50 (oA 47 49 32), oo 8 (oG 50)] ∧ RR r131_17 [oo 51 (oC .add 3 25 1), oo 25 (oM 51)] ∧ RI b131_0 (.seq (r131_6) (.seq (.cond (.tmp 26) (.skip) (.exit 0)) (.seq (.block 1 (.seq (r131_7) (.seq (r131_8) (.seq (.seq (r131_9) (.block 2 (.loop b131_1))) (.seq (r131_15) (.cond (.tmp 46) (r131_16) (.skip))))))) (r131_17)))) ∧ KeepS T 131 b131_0 [1, 6, 8, 23, 24, 25] ∧ RR r131_18 [oo 52 (oM 8), oo 53 (.call ⟨.value (.func 174), #[.tmp 52, .func 201], #[32, 257]⟩), oo 4 (oG 53), oo 5 (oi 0)] ∧ FinF T 131 [.tmp 4, .tmp 5] false := by refine ⟨runR T ?_, runR T ?_, runR T ?_, runR T ?_, runR T ?_, runR T ?_, runR T ?_, runR T ?_, runR T ?_, runR T ?_, runR T ?_, runR T ?_, runR T ?_, runR T ?_, runR T ?_, runIc T ?_, keepS T ?_, runR T ?_, runR T ?_, runR T ?_, runIc T ?_, keepS T ?_, runR T ?_, finI T (F := Tryz.f131) ?_ ?_ ?_⟩ <;> kernel_rfl
def r132_0 := nv 2 Tryz.f132
def r132_1 := nv 6 Tryz.f132
theorem ent132 : Ent T 132 8 (.seq (r132_0) (.seq (r132_1) (.ret))) := entI T (F := Tryz.f132) (by kernel_rfl) (by kernel_rfl) (by kernel_rfl)
@[go_sem ↓] theorem run132 : RR r132_0 [oo 4 (.assign (.const (.bool false)))] ∧ RR r132_1 [oo 5 (oM 0), oo 6 (oM 1), oo 7 (oB .eql 3 5 6), oo 4 (oG 7)] ∧ FinF T 132 [.tmp 4] false := by refine ⟨runR T ?_, runR T ?_, finI T (F := Tryz.f132) ?_ ?_ ?_⟩ <;> kernel_rfl
def r133_0 := nv 2 Tryz.f133
def r133_1 := nv 6 Tryz.f133
theorem ent133 : Ent T 133 7 (.seq (r133_0) (.seq (r133_1) (.ret))) := entI T (F := Tryz.f133) (by kernel_rfl) (by kernel_rfl) (by kernel_rfl)
@[go_sem ↓] theorem run133 : RR r133_0 [oo 4 (.assign (.const (.bool false)))] ∧ RR r133_1 [oo 5 (oM 0), oo 6 (oC .gtr 3 5 0), oo 4 (oG 6)] ∧ FinF T 133 [.tmp 4] false := by refine ⟨runR T ?_, runR T ?_, finI T (F := Tryz.f133) ?_ ?_ ?_⟩ <;> kernel_rfl
@[go_sem] theorem fr203 : Fct T 203 false none false ∧ Res1 T 203 4 := by refine ⟨⟨?_, ?_, ?_⟩, res1 T (F := Tryz.f203) ?_ ?_⟩ <;> kernel_rfl
def r135_0 := nv 2 Tryz.f135
def r135_1 := nv 6 Tryz.f135
def r135_2 := nv 28 Tryz.f135
def b135_0 := nv 116 Tryz.f135
def r135_3 := nv 464 Tryz.f135
def r135_5 := nv 1864 Tryz.f135
def r135_6 := nv 3730 Tryz.f135
def r135_4 := nv 467 Tryz.f135
def r135_7 := nv 30 Tryz.f135
theorem ent135 : Ent T 135 22 (.seq (r135_0) (.seq (r135_1) (.seq (.seq (r135_2) (.block 0 (.loop b135_0))) (.seq (r135_7) (.ret))))) := entI T (F := Tryz.f135) (by kernel_rfl) (by kernel_rfl) (by kernel_rfl)
@[go_sem ↓] theorem run135 : RR r135_0 [oo 4 (oi 0)] ∧ RR r135_1 [oo 5 (oi 0)] ∧ RR r135_2 [oo 6 (oi 0)] ∧ RR r135_3 [oo 7 (oM 6), oo 8 (oM 0), oo 9 (oN 8 22), oo 10 (oB .lss 3 7 9)] ∧ RR r135_5 [oo 13 (oM 0), oo 14 (oM 6), oo 15 (oI 22 13 14), oo 16 (oL 28 15), oo 17 (oM 1), oo 18 (o2 203 16 17 28 3)] ∧ RR r135_6 [oo 19 (oM 5), oo 20 (oC .add 3 19 1), oo 5 (oG 20)] ∧ RR r135_4 [oo 11 (oM 6), oo 12 (oC .add 3 11 1), oo 6 (oG 12)] ∧ RI b135_0 (.seq (.seq (r135_3) (.cond (.tmp 10) (.skip) (.exit 0))) (.seq (.block 1 (.seq (r135_5) (.cond (.tmp 18) (r135_6) (.skip)))) (r135_4))) ∧ KeepS T 135 b135_0 [0, 1, 5, 6] ∧ RR r135_7 [oo 21 (oM 5), oo 4 (oG 21)] ∧ FinF T 135 [.tmp 4] false := by refine ⟨runR T ?_, runR T ?_, runR T ?_, runR T ?_, runR T ?_, runR T ?_, runR T ?_, runIc T ?_, keepS T ?_, runR T ?_, finI T (F := Tryz.f135) ?_ ?_ ?_⟩ <;> kernel_rfl
def r174_0 := nv 2 Tryz.f174
def r174_1 := nv 6 Tryz.f174
def r174_2 := nv 28 Tryz.f174
def b174_0 := nv 116 Tryz.f174
def r174_3 := nv 232 Tryz.f174
def r174_4 := nv 3736 Tryz.f174
def r174_5 := nv 3737 Tryz.f174
def r174_6 := nv 935 Tryz.f174
def r174_7 := nv 30 Tryz.f174
theorem ent174 : Ent T 174 22 (.seq (r174_0) (.seq (r174_1) (.seq (.seq (r174_2) (.block 0 (.loop b174_0))) (.seq (r174_7) (.ret))))) := entI T (F := Tryz.f174) (by kernel_rfl) (by kernel_rfl) (by kernel_rfl)
@[go_sem ↓] theorem run174 : RR r174_0 [oo 4 on] ∧ RR r174_1 [oo 5 on] ∧ RR r174_2 [oo 8 (oM 0), oo 9 (oN 8 32), oo 10 (.move (.const (.int .i64 0)))] ∧ RR r174_3 [oo 11 (oB .lss 3 10 9)] ∧ RR r174_4 [oo 12 (oI 32 8 10), oo 13 (oL 180 12), oo 7 (.alloc 180), ow 180 7 13] ∧ RR r174_5 [oo 14 (oM 5), oo 15 (oM 1), oo 16 (oL 180 7), oo 17 (.call ⟨.value (.tmp 15), #[.tmp 16], #[180]⟩), oo 18 (oS 60 17), oo 19 (oA 14 18 60), oo 5 (oG 19)] ∧ RR r174_6 [oo 20 (oC .add 3 10 1), oo 10 (oM 20)] ∧ RI b174_0 (.seq (r174_3) (.seq (.cond (.tmp 11) (.skip) (.exit 0)) (.seq (.block 1 (.seq (r174_4) (r174_5))) (r174_6)))) ∧ KeepS T 174 b174_0 [1, 5, 8, 9, 10] ∧ RR r174_7 [oo 21 (oM 5), oo 4 (oG 21)] ∧ FinF T 174 [.tmp 4] false := by refine ⟨runR T ?_, runR T ?_, runR T ?_, runR T ?_, runR T ?_, runR T ?_, runR T ?_, runIc T ?_, keepS T ?_, runR T ?_, finI T (F := Tryz.f174) ?_ ?_ ?_⟩ <;> kernel_rfl
@[go_sem] theorem fr136 : Fct T 136 false none false ∧ Res1 T 136 209 := by refine ⟨⟨?_, ?_, ?_⟩, res1 T (F := Tryz.f136) ?_ ?_⟩ <;> kernel_rfl
def r198_0 := nv 2 Tryz.f198
def r198_1 := nv 6 Tryz.f198
def r198_2 := nv 28 Tryz.f198
def a198_0 := nv 116 Tryz.f198
def c198_0 := nv 117 Tryz.f198
def r198_3 := nv 116 Tryz.f198
def r198_4 := nv 468 Tryz.f198
def r198_5 := nv 938 Tryz.f198
def r198_6 := nv 30 Tryz.f198
theorem ent198 : Ent T 198 18 (.seq (r198_0) (.seq (r198_1) (.seq (.seq (r198_2) (.block 0 (.rangeFunc (.tmp 8) #[9] a198_0 c198_0))) (.seq (r198_6) (.ret))))) := entI T (F := Tryz.f198) (by kernel_rfl) (by kernel_rfl) (by kernel_rfl)
@[go_sem ↓] theorem run198 : RR r198_0 [oo 1 (.box 34 (.tmp 0)), oo 2 on] ∧ RR r198_1 [oo 3 (.alloc 22)] ∧ RR r198_2 [oo 5 (oF 34 1 2), oo 6 (oL 32 5), oo 7 (oN 6 32), oo 8 (o1 136 7 3)] ∧ RR r198_3 [oo 4 (oG 9)] ∧ RR r198_4 [oo 10 (oL 34 1), oo 11 (oM 4), oo 12 (o2 126 10 11 34 28)] ∧ RR r198_5 [oo 13 (oL 22 3), oo 14 (oM 4), oo 15 (oS 22 14), oo 16 (oA 13 15 22), ow 22 3 16] ∧ RI a198_0 (r198_3) ∧ RI c198_0 (.block 1 (.seq (r198_4) (.cond (.tmp 12) (r198_5) (.skip)))) ∧ RR r198_6 [oo 17 (oL 22 3), oo 2 (oG 17)] ∧ FinF T 198 [.tmp 2] true := by refine ⟨runR T ?_, runR T ?_, runR T ?_, runR T ?_, runR T ?_, runR T ?_, runIc T ?_, runIc T ?_, runR T ?_, finI T (F := Tryz.f198) ?_ ?_ ?_⟩ <;> kernel_rfl
def r199_0 := nv 2 Tryz.f199
def r199_1 := nv 12 Tryz.f199
def b199_0 := nv 52 Tryz.f199
def r199_2 := nv 104 Tryz.f199
def r199_3 := nv 1688 Tryz.f199
def r199_4 := nv 3378 Tryz.f199
def r199_5 := nv 13516 Tryz.f199
def r199_6 := nv 423 Tryz.f199
def r199_7 := nv 14 Tryz.f199
theorem ent199 : Ent T 199 19 (.seq (r199_0) (.seq (.seq (r199_1) (.block 0 (.loop b199_0))) (.seq (r199_7) (.ret)))) := entI T (F := Tryz.f199) (by kernel_rfl) (by kernel_rfl) (by kernel_rfl)
@[go_sem ↓] theorem run199 : RR r199_0 [oo 4 (oi 0)] ∧ RR r199_1 [oo 6 (oM 0), oo 7 (oN 6 22), oo 8 (.move (.const (.int .i64 0)))] ∧ RR r199_2 [oo 9 (oB .lss 3 8 7)] ∧ RR r199_3 [oo 10 (oM 8), oo 5 (oG 10)] ∧ RR r199_4 [oo 11 (oM 1), oo 12 (oM 0), oo 13 (oM 5), oo 14 (oI 22 12 13), oo 15 (oL 28 14), oo 16 (.call ⟨.value (.tmp 11), #[.tmp 15], #[28]⟩)] ∧ RR r199_5 [oo 17 (oM 5), oo 4 (oG 17)] ∧ RR r199_6 [oo 18 (oC .add 3 8 1), oo 8 (oM 18)] ∧ RI b199_0 (.seq (r199_2) (.seq (.cond (.tmp 9) (.skip) (.exit 0)) (.seq (.block 1 (.seq (r199_3) (.seq (r199_4) (.cond (.tmp 16) (.seq (r199_5) (.ret)) (.skip))))) (r199_6)))) ∧ KeepS T 199 b199_0 [0, 1, 7, 8] ∧ RR r199_7 [oo 4 (oi (-1))] ∧ FinF T 199 [.tmp 4] true := by refine ⟨runR T ?_, runR T ?_, runR T ?_, runR T ?_, runR T ?_, runR T ?_, runR T ?_, runIc T ?_, keepS T ?_, runR T ?_, finI T (F := Tryz.f199) ?_ ?_ ?_⟩ <;> kernel_rfl
@[go_sem] theorem fr231 : Fct T 231 false none false ∧ Res1 T 231 3 := by refine ⟨⟨?_, ?_, ?_⟩, res1 T (F := Tryz.f231) ?_ ?_⟩ <;> kernel_rfl
def r200_0 := nv 2 Tryz.f200
def r200_1 := nv 6 Tryz.f200
theorem ent200 : Ent T 200 9 (.seq (r200_0) (.seq (r200_1) (.ret))) := entI T (F := Tryz.f200) (by kernel_rfl) (by kernel_rfl) (by kernel_rfl)
@[go_sem ↓] theorem run200 : RR r200_0 [oo 4 (.assign (.const (.bool false)))] ∧ RR r200_1 [oo 5 (oM 0), oo 6 (oM 1), oo 7 (o2 231 5 6 28 3), oo 8 (oC .geq 3 7 0), oo 4 (oG 8)] ∧ FinF T 200 [.tmp 4] false := by refine ⟨runR T ?_, runR T ?_, finI T (F := Tryz.f200) ?_ ?_ ?_⟩ <;> kernel_rfl
def r201_0 := nv 2 Tryz.f201
def r201_1 := nv 6 Tryz.f201
theorem ent201 : Ent T 201 5 (.seq (r201_0) (.seq (r201_1) (.ret))) := entI T (F := Tryz.f201) (by kernel_rfl) (by kernel_rfl) (by kernel_rfl)
@[go_sem ↓] theorem run201 : RR r201_0 [oo 1 (.box 180 (.tmp 0)), oo 2 (.assign (.const (.string ⟨#[]⟩)))] ∧ RR r201_1 [oo 3 (oF 180 1 0), oo 4 (oL 9 3), oo 2 (oG 4)] ∧ FinF T 201 [.tmp 2] false := by refine ⟨runR T ?_, runR T ?_, finI T (F := Tryz.f201) ?_ ?_ ?_⟩ <;> kernel_rfl
def r203_0 := nv 2 Tryz.f203
def r203_1 := nv 12 Tryz.f203
def b203_0 := nv 52 Tryz.f203
def r203_2 := nv 208 Tryz.f203
def r203_4 := nv 840 Tryz.f203
def r203_5 := nv 3364 Tryz.f203
def r203_3 := nv 211 Tryz.f203
def r203_6 := nv 14 Tryz.f203
theorem ent203 : Ent T 203 18 (.seq (r203_0) (.seq (.seq (r203_1) (.block 0 (.loop b203_0))) (.seq (r203_6) (.ret)))) := entI T (F := Tryz.f203) (by kernel_rfl) (by kernel_rfl) (by kernel_rfl)
@[go_sem ↓] theorem run203 : RR r203_0 [oo 4 (.assign (.const (.bool false)))] ∧ RR r203_1 [oo 5 (oi 0)] ∧ RR r203_2 [oo 6 (oM 5), oo 7 (oM 0), oo 8 (oN 7 28), oo 9 (oB .lss 3 6 8)] ∧ RR r203_4 [oo 12 (oM 0), oo 13 (oM 5), oo 14 (oI 28 12 13), oo 15 (oL 3 14), oo 16 (oM 1), oo 17 (oB .eql 3 15 16)] ∧ RR r203_5 [oo 4 (.assign (.const (.bool true)))] ∧ RR r203_3 [oo 10 (oM 5), oo 11 (oC .add 3 10 1), oo 5 (oG 11)] ∧ RI b203_0 (.seq (.seq (r203_2) (.cond (.tmp 9) (.skip) (.exit 0))) (.seq (.block 1 (.seq (r203_4) (.cond (.tmp 17) (.seq (r203_5) (.ret)) (.skip)))) (r203_3))) ∧ KeepS T 203 b203_0 [0, 1, 5] ∧ RR r203_6 [oo 4 (.assign (.const (.bool false)))] ∧ FinF T 203 [.tmp 4] false := by refine ⟨runR T ?_, runR T ?_, runR T ?_, runR T ?_, runR T ?_, runR T ?_, runIc T ?_, keepS T ?_, runR T ?_, finI T (F := Tryz.f203) ?_ ?_ ?_⟩ <;> kernel_rfl
@[go_sem] theorem fct235 : Fct T 235 false none false := ⟨by kernel_rfl, by kernel_rfl, by kernel_rfl⟩
@[go_sem] theorem res235 : Res0 T 235 := res0 T (F := Tryz.f235) (by kernel_rfl) (by kernel_rfl)
def r231_0 := nv 2 Tryz.f231
def r231_1 := nv 12 Tryz.f231
def b231_0 := nv 52 Tryz.f231
def r231_2 := nv 104 Tryz.f231
def r231_3 := nv 1688 Tryz.f231
def r231_4 := nv 3378 Tryz.f231
def r231_5 := nv 13516 Tryz.f231
def r231_6 := nv 423 Tryz.f231
def r231_7 := nv 14 Tryz.f231
theorem ent231 : Ent T 231 19 (.seq (r231_0) (.seq (.seq (r231_1) (.block 0 (.loop b231_0))) (.seq (r231_7) (.ret)))) := entI T (F := Tryz.f231) (by kernel_rfl) (by kernel_rfl) (by kernel_rfl)
@[go_sem ↓] theorem run231 : RR r231_0 [oo 4 (oi 0)] ∧ RR r231_1 [oo 6 (oM 0), oo 7 (oN 6 28), oo 8 (.move (.const (.int .i64 0)))] ∧ RR r231_2 [oo 9 (oB .lss 3 8 7)] ∧ RR r231_3 [oo 10 (oM 8), oo 5 (oG 10)] ∧ RR r231_4 [oo 11 (oM 1), oo 12 (oM 0), oo 13 (oM 5), oo 14 (oI 28 12 13), oo 15 (oL 3 14), oo 16 (oB .eql 3 11 15)] ∧ RR r231_5 [oo 17 (oM 5), oo 4 (oG 17)] ∧ RR r231_6 [oo 18 (oC .add 3 8 1), oo 8 (oM 18)] ∧ RI b231_0 (.seq (r231_2) (.seq (.cond (.tmp 9) (.skip) (.exit 0)) (.seq (.block 1 (.seq (r231_3) (.seq (r231_4) (.cond (.tmp 16) (.seq (r231_5) (.ret)) (.skip))))) (r231_6)))) ∧ KeepS T 231 b231_0 [0, 1, 7, 8] ∧ RR r231_7 [oo 4 (oi (-1))] ∧ FinF T 231 [.tmp 4] false := by refine ⟨runR T ?_, runR T ?_, runR T ?_, runR T ?_, runR T ?_, runR T ?_, runR T ?_, runIc T ?_, keepS T ?_, runR T ?_, finI T (F := Tryz.f231) ?_ ?_ ?_⟩ <;> kernel_rfl
def r235_0 := nv 2 Tryz.f235
def b235_0 := nv 12 Tryz.f235
def r235_1 := nv 24 Tryz.f235
def r235_2 := nv 408 Tryz.f235
def r235_3 := nv 818 Tryz.f235
def r235_4 := nv 103 Tryz.f235
theorem ent235 : Ent T 235 16 (.seq (r235_0) (.block 0 (.loop b235_0))) := entI T (F := Tryz.f235) (by kernel_rfl) (by kernel_rfl) (by kernel_rfl)
@[go_sem ↓] theorem run235 : RR r235_0 [oo 5 (oL 22 1), oo 6 (oN 5 22), oo 7 (.move (.const (.int .i64 0)))] ∧ RR r235_1 [oo 8 (oB .lss 3 7 6)] ∧ RR r235_2 [oo 9 (oI 22 5 7), oo 10 (oL 28 9), oo 4 (oG 10)] ∧ RR r235_3 [oo 11 (oM 0), oo 12 (oM 4), oo 13 (.call ⟨.value (.tmp 11), #[.tmp 12], #[28]⟩), oo 14 (.unOp .not 4 (.tmp 13))] ∧ RR r235_4 [oo 15 (oC .add 3 7 1), oo 7 (oM 15)] ∧ RI b235_0 (.seq (r235_1) (.seq (.cond (.tmp 8) (.skip) (.exit 0)) (.seq (.block 1 (.seq (r235_2) (.seq (r235_3) (.cond (.tmp 14) (.ret) (.skip))))) (r235_4)))) ∧ KeepS T 235 b235_0 [0, 5, 6, 7] ∧ FinF T 235 [] false := by refine ⟨runR T ?_, runR T ?_, runR T ?_, runR T ?_, runR T ?_, runIc T ?_, keepS T ?_, finI T (F := Tryz.f235) ?_ ?_ ?_⟩ <;> kernel_rfl
end Go.Den.FaT
end
