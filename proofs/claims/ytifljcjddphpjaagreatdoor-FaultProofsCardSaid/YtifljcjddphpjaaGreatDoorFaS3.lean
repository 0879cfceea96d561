import Derived.Test.YtifljcjddphpjaaGreatDoorFaTab
import Derived.Test.YtifljcjddphpjaaGreatDoorZQ
import Derived.Test.YtifljcjddphpjaaGreatDoorFaS0
import Derived.Test.YtifljcjddphpjaaGreatDoorFaS1
import Derived.Test.YtifljcjddphpjaaGreatDoorFaS2
set_option linter.all false
set_option maxHeartbeats 8000000
set_option maxRecDepth 100000
noncomputable section
namespace Go.Den.FaT
open Go Go.Proofs Go.Den
@[go_sem] theorem fr205 : Fct T 205 false none false ∧ Res1 T 205 3 := by refine ⟨⟨?_, ?_, ?_⟩, res1 T (F := Tryz.f205) ?_ ?_⟩ <;> kernel_rfl
@[go_sem] theorem fr206 : Fct T 206 false none false ∧ Res1 T 206 3 := by refine ⟨⟨?_, ?_, ?_⟩, res1 T (F := Tryz.f206) ?_ ?_⟩ <;> kernel_rfl
@[go_sem] theorem fr207 : Fct T 207 false none false ∧ Res1 T 207 3 := by refine ⟨⟨?_, ?_, ?_⟩, res1 T (F := Tryz.f207) ?_ ?_⟩ <;> kernel_rfl
@[go_sem] theorem fr208 : Fct T 208 false none false ∧ Res1 T 208 3 := by refine ⟨⟨?_, ?_, ?_⟩, res1 T (F := Tryz.f208) ?_ ?_⟩ <;> kernel_rfl
def r205_0 := nv 2 Tryz.f205
def r205_1 := nv 6 Tryz.f205
theorem ent205 : Ent T 205 15 (.seq (r205_0) (.seq (r205_1) (.ret))) := entI T (F := Tryz.f205) (by kernel_rfl) (by kernel_rfl) (by kernel_rfl)
@[go_sem ↓] theorem run205 : RR r205_0 [oo 4 (oi 0)] ∧ RR r205_1 [oo 5 (oM 0), oo 6 (oN 5 28), oo 7 (oM 1), oo 8 (oN 7 28), oo 9 (o2 207 6 8 3 3), oo 10 (oM 0), oo 11 (oM 1), oo 12 (o2 208 10 11 28 28), oo 13 (.buildSlice 28 2 #[(0, .tmp 9), (1, .tmp 12)]), oo 14 (o1 206 13 28), oo 4 (oG 14)] ∧ FinF T 205 [.tmp 4] false := by refine ⟨runR T ?_, runR T ?_, finI T (F := Tryz.f205) ?_ ?_ ?_⟩ <;> kernel_rfl
def r206_0 := nv 2 Tryz.f206
def r206_1 := nv 6 Tryz.f206
def r206_2 := nv 28 Tryz.f206
def b206_0 := nv 116 Tryz.f206
def r206_3 := nv 232 Tryz.f206
def r206_4 := nv 3736 Tryz.f206
def r206_5 := nv 7474 Tryz.f206
def r206_6 := nv 29900 Tryz.f206
def r206_7 := nv 935 Tryz.f206
def r206_8 := nv 30 Tryz.f206
theorem ent206 : Ent T 206 18 (.seq (r206_0) (.seq (r206_1) (.seq (.seq (r206_2) (.block 0 (.loop b206_0))) (.seq (r206_8) (.ret))))) := entI T (F := Tryz.f206) (by kernel_rfl) (by kernel_rfl) (by kernel_rfl)
@[go_sem ↓] theorem run206 : RR r206_0 [oo 2 (oi 0)] ∧ RR r206_1 [oo 3 (oi 0)] ∧ RR r206_2 [oo 6 (oM 0), oo 7 (oN 6 28), oo 8 (.move (.const (.int .i64 0)))] ∧ RR r206_3 [oo 9 (oB .lss 3 8 7)] ∧ RR r206_4 [oo 10 (oI 28 6 8), oo 11 (oL 3 10), oo 5 (oG 11)] ∧ RR r206_5 [oo 12 (oM 5), oo 13 (oM 3), oo 14 (oB .neq 3 12 13)] ∧ RR r206_6 [oo 15 (oM 5), oo 2 (oG 15)] ∧ RR r206_7 [oo 16 (oC .add 3 8 1), oo 8 (oM 16)] ∧ RI b206_0 (.seq (r206_3) (.seq (.cond (.tmp 9) (.skip) (.exit 0)) (.seq (.block 1 (.seq (r206_4) (.seq (r206_5) (.cond (.tmp 14) (.seq (r206_6) (.ret)) (.skip))))) (r206_7)))) ∧ KeepS T 206 b206_0 [3, 6, 7, 8] ∧ RR r206_8 [oo 17 (oM 3), oo 2 (oG 17)] ∧ FinF T 206 [.tmp 2] false := by refine ⟨runR T ?_, runR T ?_, runR T ?_, runR T ?_, runR T ?_, runR T ?_, runR T ?_, runR T ?_, runIc T ?_, keepS T ?_, runR T ?_, finI T (F := Tryz.f206) ?_ ?_ ?_⟩ <;> kernel_rfl
def r207_0 := nv 2 Tryz.f207
def r207_1 := nv 6 Tryz.f207
def r207_2 := nv 14 Tryz.f207
def r207_3 := nv 60 Tryz.f207
def r207_4 := nv 488 Tryz.f207
def r207_5 := nv 1956 Tryz.f207
def r207_6 := nv 490 Tryz.f207
def r207_7 := nv 124 Tryz.f207
def r207_8 := nv 500 Tryz.f207
def r207_9 := nv 252 Tryz.f207
def r207_10 := nv 1012 Tryz.f207
def r207_11 := nv 508 Tryz.f207
def r207_12 := nv 2036 Tryz.f207
def r207_13 := nv 510 Tryz.f207
theorem ent207 : Ent T 207 20 (.seq (r207_0) (.seq (r207_1) (.seq (r207_2) (.seq (.seq (r207_3) (.cond (.tmp 11) (.seq (.seq (r207_4) (.cond (.tmp 12) (.seq (r207_5) (.ret)) (.skip))) (.seq (r207_6) (.ret))) (.skip))) (.seq (.seq (r207_7) (.cond (.tmp 13) (.seq (r207_8) (.ret)) (.skip))) (.seq (.seq (r207_9) (.cond (.tmp 16) (.seq (r207_10) (.ret)) (.skip))) (.seq (.seq (r207_11) (.cond (.tmp 19) (.seq (r207_12) (.ret)) (.skip))) (.seq (r207_13) (.ret))))))))) := entI T (F := Tryz.f207) (by kernel_rfl) (by kernel_rfl) (by kernel_rfl)
@[go_sem ↓] theorem run207 : RR r207_0 [oo 4 (oi 0)] ∧ RR r207_1 [oo 7 (oM 0), oo 8 (o1 234 7 3), oo 5 (oG 8)] ∧ RR r207_2 [oo 9 (oM 1), oo 10 (o1 234 9 3), oo 6 (oG 10)] ∧ RR r207_3 [oo 11 (oM 5)] ∧ RR r207_4 [oo 12 (oM 6)] ∧ RR r207_5 [oo 4 (oi 0)] ∧ RR r207_6 [oo 4 (oi (-1))] ∧ RR r207_7 [oo 13 (oM 6)] ∧ RR r207_8 [oo 4 (oi 1)] ∧ RR r207_9 [oo 14 (oM 0), oo 15 (oM 1), oo 16 (oB .lss 3 14 15)] ∧ RR r207_10 [oo 4 (oi (-1))] ∧ RR r207_11 [oo 17 (oM 0), oo 18 (oM 1), oo 19 (oB .gtr 3 17 18)] ∧ RR r207_12 [oo 4 (oi 1)] ∧ RR r207_13 [oo 4 (oi 0)] ∧ FinF T 207 [.tmp 4] false := by refine ⟨runR T ?_, runR T ?_, runR T ?_, runR T ?_, runR T ?_, runR T ?_, runR T ?_, runR T ?_, runR T ?_, runR T ?_, runR T ?_, runR T ?_, runR T ?_, runR T ?_, finI T (F := Tryz.f207) ?_ ?_ ?_⟩ <;> kernel_rfl
def r208_0 := nv 2 Tryz.f208
def r208_1 := nv 12 Tryz.f208
def b208_0 := nv 52 Tryz.f208
def r208_2 := nv 104 Tryz.f208
def r208_3 := nv 1688 Tryz.f208
def r208_4 := nv 6756 Tryz.f208
def r208_5 := nv 27028 Tryz.f208
def r208_6 := nv 6758 Tryz.f208
def r208_7 := nv 13518 Tryz.f208
def r208_8 := nv 27038 Tryz.f208
def r208_9 := nv 108156 Tryz.f208
def r208_10 := nv 423 Tryz.f208
def r208_11 := nv 28 Tryz.f208
def r208_12 := nv 116 Tryz.f208
def r208_13 := nv 30 Tryz.f208
theorem ent208 : Ent T 208 36 (.seq (r208_0) (.seq (.seq (r208_1) (.block 0 (.loop b208_0))) (.seq (.seq (r208_11) (.cond (.tmp 35) (.seq (r208_12) (.ret)) (.skip))) (.seq (r208_13) (.ret))))) := entI T (F := Tryz.f208) (by kernel_rfl) (by kernel_rfl) (by kernel_rfl)
@[go_sem ↓] theorem run208 : RR r208_0 [oo 4 (oi 0)] ∧ RR r208_1 [oo 9 (oM 0), oo 10 (oN 9 28), oo 11 (.move (.const (.int .i64 0)))] ∧ RR r208_2 [oo 12 (oB .lss 3 11 10)] ∧ RR r208_3 [oo 13 (oM 11), oo 14 (oI 28 9 11), oo 15 (oL 3 14), oo 5 (oG 13), oo 6 (oG 15)] ∧ RR r208_4 [oo 16 (oM 5), oo 17 (oM 1), oo 18 (oN 17 28), oo 19 (oB .geq 3 16 18)] ∧ RR r208_5 [oo 4 (oi 1)] ∧ RR r208_6 [oo 20 (oM 1), oo 21 (oM 5), oo 22 (oI 28 20 21), oo 23 (oL 3 22), oo 7 (oG 23)] ∧ RR r208_7 [oo 24 (oM 6), oo 25 (oM 7), oo 26 (o2 207 24 25 3 3), oo 8 (oG 26)] ∧ RR r208_8 [oo 27 (oM 8), oo 28 (oC .neq 3 27 0)] ∧ RR r208_9 [oo 29 (oM 8), oo 4 (oG 29)] ∧ RR r208_10 [oo 30 (oC .add 3 11 1), oo 11 (oM 30)] ∧ RI b208_0 (.seq (r208_2) (.seq (.cond (.tmp 12) (.skip) (.exit 0)) (.seq (.block 1 (.seq (r208_3) (.seq (.seq (r208_4) (.cond (.tmp 19) (.seq (r208_5) (.ret)) (.skip))) (.seq (r208_6) (.seq (r208_7) (.seq (r208_8) (.cond (.tmp 28) (.seq (r208_9) (.ret)) (.skip)))))))) (r208_10)))) ∧ KeepS T 208 b208_0 [0, 1, 9, 10, 11] ∧ RR r208_11 [oo 31 (oM 0), oo 32 (oN 31 28), oo 33 (oM 1), oo 34 (oN 33 28), oo 35 (oB .lss 3 32 34)] ∧ RR r208_12 [oo 4 (oi (-1))] ∧ RR r208_13 [oo 4 (oi 0)] ∧ FinF T 208 [.tmp 4] false := by refine ⟨runR T ?_, runR T ?_, runR T ?_, runR T ?_, runR T ?_, runR T ?_, runR T ?_, runR T ?_, runR T ?_, runR T ?_, runR T ?_, runIc T ?_, keepS T ?_, runR T ?_, runR T ?_, runR T ?_, finI T (F := Tryz.f208) ?_ ?_ ?_⟩ <;> kernel_rfl
@[go_sem] theorem fr40 : Fct T 40 false none false ∧ Res1 T 40 22 := by refine ⟨⟨?_, ?_, ?_⟩, res1 T (F := Tryz.f40) ?_ ?_⟩ <;> kernel_rfl
@[go_sem] theorem fr41 : Fct T 41 false none false ∧ Res1 T 41 22 := by refine ⟨⟨?_, ?_, ?_⟩, res1 T (F := Tryz.f41) ?_ ?_⟩ <;> kernel_rfl
@[go_sem] theorem fr128 : Fct T 128 true none false ∧ Res2 T 128 22 29 [] := by refine ⟨⟨?_, ?_, ?_⟩, res2 T (F := Tryz.f128) ?_ ?_⟩ <;> kernel_rfl
@[go_sem] theorem fct129 : Fct T 129 true none false := ⟨by kernel_rfl, by kernel_rfl, by kernel_rfl⟩
@[go_sem] theorem res129 : Res1 T 129 22 := res1 T (F := Tryz.f129) (by kernel_rfl) (by kernel_rfl)
@[go_sem] theorem fr134 : Fct T 134 false none false ∧ Res1 T 134 22 := by refine ⟨⟨?_, ?_, ?_⟩, res1 T (F := Tryz.f134) ?_ ?_⟩ <;> kernel_rfl
def r40_0 := nv 2 Tryz.f40
def r40_1 := nv 6 Tryz.f40
def r40_2 := nv 14 Tryz.f40
def r40_3 := nv 60 Tryz.f40
def b40_0 := nv 244 Tryz.f40
def r40_4 := nv 976 Tryz.f40
def r40_6 := nv 3912 Tryz.f40
def r40_7 := nv 7826 Tryz.f40
def r40_5 := nv 979 Tryz.f40
def r40_8 := nv 62 Tryz.f40
theorem ent40 : Ent T 40 32 (.seq (r40_0) (.seq (r40_1) (.seq (r40_2) (.seq (.seq (r40_3) (.block 0 (.loop b40_0))) (.seq (r40_8) (.ret)))))) := entI T (F := Tryz.f40) (by kernel_rfl) (by kernel_rfl) (by kernel_rfl)
@[go_sem ↓] theorem run40 : RR r40_0 [oo 1 (.box 25 (.tmp 0)), oo 2 on] ∧ RR r40_1 [oo 3 on] ∧ RR r40_2 [oo 6 (oF 25 1 2), oo 7 (oL 23 6), oo 8 (oN 7 23), oo 9 (o1 134 8 3), oo 4 (oG 9)] ∧ RR r40_3 [oo 5 (oi 0)] ∧ RR r40_4 [oo 10 (oM 5), oo 11 (oM 4), oo 12 (oN 11 22), oo 13 (oB .lss 3 10 12)] ∧ RD r40_6 40 [oo 16 (oL 25 1), oo 17 (oM 4), oo 18 (oM 5), oo 19 (oI 22 17 18), oo 20 (oL 28 19), oo 21 (o2 33 16 20 25 28), oo 22 (oN 21 48), oo 23 (oC .eql 3 22 0)] [(0, 1), (0, 2), (1, 2), (0, 3), (0, 4)] ∧ RR r40_7 [oo 24 (oM 3), oo 25 (oM 4), oo 26 (oM 5), oo 27 (oI 22 25 26), oo 28 (oL 28 27), oo 29 (oS 22 28), oo 30 (oA 24 29 22), oo 3 (oG 30)] ∧ RR r40_5 [oo 14 (oM 5), oo 15 (oC .add 3 14 1), oo 5 (oG 15)] ∧ RI b40_0 (.seq (.seq (r40_4) (.cond (.tmp 13) (.skip) (.exit 0))) (.seq (.block 1 (.seq (r40_6) (.cond (.tmp 23) (r40_7) (.skip)))) (r40_5))) ∧ KeepS T 40 b40_0 [1, 3, 4, 5] ∧ RR r40_8 [oo 31 (oM 3), oo 2 (oG 31)] ∧ FinF T 40 [.tmp 2] false := by refine ⟨runR T ?_, runR T ?_, runR T ?_, runR T ?_, runR T ?_, runD T (id := 6) ?_ ?_, runR T ?_, runR T ?_, runIc T ?_, keepS T ?_, runR T ?_, finI T (F := Tryz.f40) ?_ ?_ ?_⟩ <;> kernel_rfl
def r41_0 := nv 2 Tryz.f41
def r41_1 := nv 6 Tryz.f41
def r41_2 := nv 14 Tryz.f41
def r41_3 := nv 60 Tryz.f41
def b41_0 := nv 244 Tryz.f41
def r41_4 := nv 976 Tryz.f41
def r41_6 := nv 3912 Tryz.f41
def r41_7 := nv 7826 Tryz.f41
def r41_5 := nv 979 Tryz.f41
def r41_8 := nv 62 Tryz.f41
theorem ent41 : Ent T 41 32 (.seq (r41_0) (.seq (r41_1) (.seq (r41_2) (.seq (.seq (r41_3) (.block 0 (.loop b41_0))) (.seq (r41_8) (.ret)))))) := entI T (F := Tryz.f41) (by kernel_rfl) (by kernel_rfl) (by kernel_rfl)
@[go_sem ↓] theorem run41 : RR r41_0 [oo 1 (.box 25 (.tmp 0)), oo 2 on] ∧ RR r41_1 [oo 3 on] ∧ RR r41_2 [oo 6 (oL 25 1), oo 7 (o1 40 6 25), oo 4 (oG 7)] ∧ RR r41_3 [oo 5 (oi 0)] ∧ RR r41_4 [oo 8 (oM 5), oo 9 (oM 4), oo 10 (oN 9 22), oo 11 (oB .lss 3 8 10)] ∧ RD r41_6 41 [oo 14 (oM 4), oo 15 (oM 5), oo 16 (oI 22 14 15), oo 17 (oL 28 16), oo 18 (oN 17 28), oo 19 (oM 4), oo 20 (.indexAddr 22 (.tmp 19) (.const (.int .i64 0))), oo 21 (oL 28 20), oo 22 (oN 21 28), oo 23 (oB .eql 3 18 22)] [(0, 1), (0, 5), (1, 5), (2, 5), (3, 5), (4, 5), (0, 6), (1, 6), (2, 6), (3, 6), (4, 6), (0, 7), (1, 7), (2, 7), (3, 7), (4, 7), (0, 8), (1, 8), (2, 8), (3, 8), (4, 8)] ∧ RR r41_7 [oo 24 (oM 3), oo 25 (oM 4), oo 26 (oM 5), oo 27 (oI 22 25 26), oo 28 (oL 28 27), oo 29 (oS 22 28), oo 30 (oA 24 29 22), oo 3 (oG 30)] ∧ RR r41_5 [oo 12 (oM 5), oo 13 (oC .add 3 12 1), oo 5 (oG 13)] ∧ RI b41_0 (.seq (.seq (r41_4) (.cond (.tmp 11) (.skip) (.exit 0))) (.seq (.block 1 (.seq (r41_6) (.cond (.tmp 23) (r41_7) (.skip)))) (r41_5))) ∧ KeepS T 41 b41_0 [3, 4, 5] ∧ RR r41_8 [oo 31 (oM 3), oo 2 (oG 31)] ∧ FinF T 41 [.tmp 2] false := by refine ⟨runR T ?_, runR T ?_, runR T ?_, runR T ?_, runR T ?_, runD T (id := 6) ?_ ?_, runR T ?_, runR T ?_, runIc T ?_, keepS T ?_, runR T ?_, finI T (F := Tryz.f41) ?_ ?_ ?_⟩ <;> kernel_rfl
@[go_sem] theorem fr198 : Fct T 198 true none false ∧ Res1 T 198 22 := by refine ⟨⟨?_, ?_, ?_⟩, res1 T (F := Tryz.f198) ?_ ?_⟩ <;> kernel_rfl
def r128_0 := nv 2 Tryz.f128
def r128_1 := nv 12 Tryz.f128
def r128_2 := nv 26 Tryz.f128
def r128_3 := nv 108 Tryz.f128
def r128_4 := nv 14 Tryz.f128
def r128_5 := nv 30 Tryz.f128
theorem ent128 : Ent T 128 18 (.seq (r128_0) (.seq (.seq (r128_1) (.seq (r128_2) (.cond (.tmp 9) (.seq (r128_3) (.ret)) (.skip)))) (.seq (r128_4) (.seq (r128_5) (.ret))))) := entI T (F := Tryz.f128) (by kernel_rfl) (by kernel_rfl) (by kernel_rfl)
@[go_sem ↓] theorem run128 : RR r128_0 [oo 1 (.box 34 (.tmp 0)), oo 2 on, oo 3 (oi 0)] ∧ RR r128_1 [oo 6 (oL 34 1), oo 7 (o1 23 6 34), oo 4 (oG 7)] ∧ RR r128_2 [oo 8 (oM 4), oo 9 (oC .neq 29 8 0)] ∧ RR r128_3 [oo 10 (oM 4), oo 2 on, oo 3 (oG 10)] ∧ RR r128_4 [oo 11 (oL 34 1), oo 12 (o1 198 11 34), oo 5 (oG 12)] ∧ RR r128_5 [oo 13 (oM 5), oo 14 (oM 5), oo 15 (oN 14 22), oo 16 (oC .eql 3 15 0), oo 17 (.call ⟨.value (.func 115), #[.tmp 16, .const (.int .i64 18)], #[4, 29]⟩), oo 2 (oG 13), oo 3 (oG 17)] ∧ FinF T 128 [.tmp 2, .tmp 3] true := by refine ⟨runR T ?_, runR T ?_, runR T ?_, runR T ?_, runR T ?_, runR T ?_, finI T (F := Tryz.f128) ?_ ?_ ?_⟩ <;> kernel_rfl
@[go_sem] theorem fct199 : Fct T 199 true none false := ⟨by kernel_rfl, by kernel_rfl, by kernel_rfl⟩
@[go_sem] theorem res199 : Res1 T 199 3 := res1 T (F := Tryz.f199) (by kernel_rfl) (by kernel_rfl)
def r129_0 := nv 2 Tryz.f129
def r129_1 := nv 6 Tryz.f129
def r129_2 := nv 28 Tryz.f129
def r129_3 := nv 116 Tryz.f129
def r129_4 := nv 60 Tryz.f129
def b129_0 := nv 244 Tryz.f129
def r129_5 := nv 976 Tryz.f129
def r129_7 := nv 3912 Tryz.f129
def r129_8 := nv 7826 Tryz.f129
def r129_9 := nv 31308 Tryz.f129
def r129_10 := nv 31309 Tryz.f129
def r129_6 := nv 979 Tryz.f129
def r129_11 := nv 62 Tryz.f129
def r129_12 := nv 126 Tryz.f129
theorem ent129 : Ent T 129 42 (.seq (r129_0) (.seq (r129_1) (.seq (.seq (r129_2) (.cond (.tmp 12) (.seq (r129_3) (.ret)) (.skip))) (.seq (.seq (r129_4) (.block 0 (.loop b129_0))) (.seq (r129_11) (.seq (r129_12) (.ret))))))) := entI T (F := Tryz.f129) (by kernel_rfl) (by kernel_rfl) (by kernel_rfl)
@[go_sem ↓] theorem run129 : RR r129_0 [oo 4 on] ∧ RR r129_1 [oo 8 (oM 0), oo 9 (oM 1), oo 10 (o2 199 8 9 22 201), oo 5 (oG 10)] ∧ RR r129_2 [oo 11 (oM 5), oo 12 (oC .eql 3 11 (-1))] ∧ RR r129_3 [oo 13 (oM 0), oo 4 (oG 13)] ∧ RR r129_4 [oo 14 (oM 5), oo 15 (oC .add 3 14 1), oo 6 (oG 15)] ∧ RR r129_5 [oo 16 (oM 6), oo 17 (oM 0), oo 18 (oN 17 22), oo 19 (oB .lss 3 16 18)] ∧ RR r129_7 [oo 22 (oM 0), oo 23 (oM 6), oo 24 (oI 22 22 23), oo 25 (oL 28 24), oo 7 (oG 25)] ∧ RR r129_8 [oo 26 (oM 1), oo 27 (oM 7), oo 28 (.call ⟨.value (.tmp 26), #[.tmp 27], #[28]⟩), oo 29 (.unOp .not 4 (.tmp 28))] ∧ RR r129_9 [oo 30 (oM 0), oo 31 (oM 5), oo 32 (oM 7), oo 33 (oI 22 30 31), ow 28 33 32] ∧ RR r129_10 [oo 34 (oM 5), oo 35 (oC .add 3 34 1), oo 5 (oG 35)] ∧ RR r129_6 [oo 20 (oM 6), oo 21 (oC .add 3 20 1), oo 6 (oG 21)] ∧ RI b129_0 (.seq (.seq (r129_5) (.cond (.tmp 19) (.skip) (.exit 0))) (.seq (.block 1 (.seq (r129_7) (.seq (r129_8) (.cond (.tmp 29) (.seq (r129_9) (r129_10)) (.skip))))) (r129_6))) ∧ KeepS T 129 b129_0 [0, 1, 5, 6] ∧ RR r129_11 [oo 36 (oM 0), oo 37 (oM 5), oo 38 (.slice 22 (.tmp 36) (some (.tmp 37)) none none), ⟨none, .call ⟨.builtin .clear, #[.tmp 38], #[22]⟩, none⟩] ∧ RR r129_12 [oo 39 (oM 0), oo 40 (oM 5), oo 41 (.slice 22 (.tmp 39) none (some (.tmp 40)) none), oo 4 (oG 41)] ∧ FinF T 129 [.tmp 4] true := by refine ⟨runR T ?_, runR T ?_, runR T ?_, runR T ?_, runR T ?_, runR T ?_, runR T ?_, runR T ?_, runR T ?_, runR T ?_, runR T ?_, runIc T ?_, keepS T ?_, runR T ?_, runR T ?_, finI T (F := Tryz.f129) ?_ ?_ ?_⟩ <;> kernel_rfl
@[go_sem] theorem fr136 : Fct T 136 false none false ∧ Res1 T 136 209 := by refine ⟨⟨?_, ?_, ?_⟩, res1 T (F := Tryz.f136) ?_ ?_⟩ <;> kernel_rfl
def r198_0 := nv 2 Tryz.f198
def r198_1 := nv 6 Tryz.f198
def r198_2 := nv 28 Tryz.f198
def a198_0 := nv 116 Tryz.f198
def c198_0 := nv 117 Tryz.f198
def r198_3 := nv 116 Tryz.f198
def r198_4 := nv 468 Tryz.f198
def r198_5 := nv 938 Tryz.f198
def r198_6 := nv 30 Tryz.f198
theorem ent198 : Ent T 198 18 (.seq (r198_0) (.seq (r198_1) (.seq (.seq (r198_2) (.block 0 (.rangeFunc (.tmp 8) #[9] a198_0 c198_0))) (.seq (r198_6) (.ret))))) := entI T (F := Tryz.f198) (by kernel_rfl) (by kernel_rfl) (by kernel_rfl)
@[go_sem ↓] theorem run198 : RR r198_0 [oo 1 (.box 34 (.tmp 0)), oo 2 on] ∧ RR r198_1 [oo 3 (.alloc 22)] ∧ RR r198_2 [oo 5 (oF 34 1 2), oo 6 (oL 32 5), oo 7 (oN 6 32), oo 8 (o1 136 7 3)] ∧ RR r198_3 [oo 4 (oG 9)] ∧ RR r198_4 [oo 10 (oL 34 1), oo 11 (oM 4), oo 12 (o2 126 10 11 34 28)] ∧ RR r198_5 [oo 13 (oL 22 3), oo 14 (oM 4), oo 15 (oS 22 14), oo 16 (oA 13 15 22), ow 22 3 16] ∧ RI a198_0 (r198_3) ∧ RI c198_0 (.block 1 (.seq (r198_4) (.cond (.tmp 12) (r198_5) (.skip)))) ∧ RR r198_6 [oo 17 (oL 22 3), oo 2 (oG 17)] ∧ FinF T 198 [.tmp 2] true := by refine ⟨runR T ?_, runR T ?_, runR T ?_, runR T ?_, runR T ?_, runR T ?_, runIc T ?_, runIc T ?_, runR T ?_, finI T (F := Tryz.f198) ?_ ?_ ?_⟩ <;> kernel_rfl
def r199_0 := nv 2 Tryz.f199
def r199_1 := nv 12 Tryz.f199
def b199_0 := nv 52 Tryz.f199
def r199_2 := nv 104 Tryz.f199
def r199_3 := nv 1688 Tryz.f199
def r199_4 := nv 3378 Tryz.f199
def r199_5 := nv 13516 Tryz.f199
def r199_6 := nv 423 Tryz.f199
def r199_7 := nv 14 Tryz.f199
theorem ent199 : Ent T 199 19 (.seq (r199_0) (.seq (.seq (r199_1) (.block 0 (.loop b199_0))) (.seq (r199_7) (.ret)))) := entI T (F := Tryz.f199) (by kernel_rfl) (by kernel_rfl) (by kernel_rfl)
@[go_sem ↓] theorem run199 : RR r199_0 [oo 4 (oi 0)] ∧ RR r199_1 [oo 6 (oM 0), oo 7 (oN 6 22), oo 8 (.move (.const (.int .i64 0)))] ∧ RR r199_2 [oo 9 (oB .lss 3 8 7)] ∧ RR r199_3 [oo 10 (oM 8), oo 5 (oG 10)] ∧ RR r199_4 [oo 11 (oM 1), oo 12 (oM 0), oo 13 (oM 5), oo 14 (oI 22 12 13), oo 15 (oL 28 14), oo 16 (.call ⟨.value (.tmp 11), #[.tmp 15], #[28]⟩)] ∧ RR r199_5 [oo 17 (oM 5), oo 4 (oG 17)] ∧ RR r199_6 [oo 18 (oC .add 3 8 1), oo 8 (oM 18)] ∧ RI b199_0 (.seq (r199_2) (.seq (.cond (.tmp 9) (.skip) (.exit 0)) (.seq (.block 1 (.seq (r199_3) (.seq (r199_4) (.cond (.tmp 16) (.seq (r199_5) (.ret)) (.skip))))) (r199_6)))) ∧ KeepS T 199 b199_0 [0, 1, 7, 8] ∧ RR r199_7 [oo 4 (oi (-1))] ∧ FinF T 199 [.tmp 4] true := by refine ⟨runR T ?_, runR T ?_, runR T ?_, runR T ?_, runR T ?_, runR T ?_, runR T ?_, runIc T ?_, keepS T ?_, runR T ?_, finI T (F := Tryz.f199) ?_ ?_ ?_⟩ <;> kernel_rfl
@[go_sem] theorem fr231 : Fct T 231 false none false ∧ Res1 T 231 3 := by refine ⟨⟨?_, ?_, ?_⟩, res1 T (F := Tryz.f231) ?_ ?_⟩ <;> kernel_rfl
@[go_sem] theorem fct235 : Fct T 235 false none false := ⟨by kernel_rfl, by kernel_rfl, by kernel_rfl⟩
@[go_sem] theorem res235 : Res0 T 235 := res0 T (F := Tryz.f235) (by kernel_rfl) (by kernel_rfl)
def r231_0 := nv 2 Tryz.f231
def r231_1 := nv 12 Tryz.f231
def b231_0 := nv 52 Tryz.f231
def r231_2 := nv 104 Tryz.f231
def r231_3 := nv 1688 Tryz.f231
def r231_4 := nv 3378 Tryz.f231
def r231_5 := nv 13516 Tryz.f231
def r231_6 := nv 423 Tryz.f231
def r231_7 := nv 14 Tryz.f231
theorem ent231 : Ent T 231 19 (.seq (r231_0) (.seq (.seq (r231_1) (.block 0 (.loop b231_0))) (.seq (r231_7) (.ret)))) := entI T (F := Tryz.f231) (by kernel_rfl) (by kernel_rfl) (by kernel_rfl)
@[go_sem ↓] theorem run231 : RR r231_0 [oo 4 (oi 0)] ∧ RR r231_1 [oo 6 (oM 0), oo 7 (oN 6 28), oo 8 (.move (.const (.int .i64 0)))] ∧ RR r231_2 [oo 9 (oB .lss 3 8 7)] ∧ RR r231_3 [oo 10 (oM 8), oo 5 (oG 10)] ∧ RR r231_4 [oo 11 (oM 1), oo 12 (oM 0), oo 13 (oM 5), oo 14 (oI 28 12 13), oo 15 (oL 3 14), oo 16 (oB .eql 3 11 15)] ∧ RR r231_5 [oo 17 (oM 5), oo 4 (oG 17)] ∧ RR r231_6 [oo 18 (oC .add 3 8 1), oo 8 (oM 18)] ∧ RI b231_0 (.seq (r231_2) (.seq (.cond (.tmp 9) (.skip) (.exit 0)) (.seq (.block 1 (.seq (r231_3) (.seq (r231_4) (.cond (.tmp 16) (.seq (r231_5) (.ret)) (.skip))))) (r231_6)))) ∧ KeepS T 231 b231_0 [0, 1, 7, 8] ∧ RR r231_7 [oo 4 (oi (-1))] ∧ FinF T 231 [.tmp 4] false := by refine ⟨runR T ?_, runR T ?_, runR T ?_, runR T ?_, runR T ?_, runR T ?_, runR T ?_, runIc T ?_, keepS T ?_, runR T ?_, finI T (F := Tryz.f231) ?_ ?_ ?_⟩ <;> kernel_rfl
def r235_0 := nv 2 Tryz.f235
def b235_0 := nv 12 Tryz.f235
def r235_1 := nv 24 Tryz.f235
def r235_2 := nv 408 Tryz.f235
def r235_3 := nv 818 Tryz.f235
def r235_4 := nv 103 Tryz.f235
theorem ent235 : Ent T 235 16 (.seq (r235_0) (.block 0 (.loop b235_0))) := entI T (F := Tryz.f235) (by kernel_rfl) (by kernel_rfl) (by kernel_rfl)
@[go_sem ↓] theorem run235 : RR r235_0 [oo 5 (oL 22 1), oo 6 (oN 5 22), oo 7 (.move (.const (.int .i64 0)))] ∧ RR r235_1 [oo 8 (oB .lss 3 7 6)] ∧ RR r235_2 [oo 9 (oI 22 5 7), oo 10 (oL 28 9), oo 4 (oG 10)] ∧ RR r235_3 [oo 11 (oM 0), oo 12 (oM 4), oo 13 (.call ⟨.value (.tmp 11), #[.tmp 12], #[28]⟩), oo 14 (.unOp .not 4 (.tmp 13))] ∧ RR r235_4 [oo 15 (oC .add 3 7 1), oo 7 (oM 15)] ∧ RI b235_0 (.seq (r235_1) (.seq (.cond (.tmp 8) (.skip) (.exit 0)) (.seq (.block 1 (.seq (r235_2) (.seq (r235_3) (.cond (.tmp 14) (.ret) (.skip))))) (r235_4)))) ∧ KeepS T 235 b235_0 [0, 5, 6, 7] ∧ FinF T 235 [] false := by refine ⟨runR T ?_, runR T ?_, runR T ?_, runR T ?_, runR T ?_, runIc T ?_, keepS T ?_, finI T (F := Tryz.f235) ?_ ?_ ?_⟩ <;> kernel_rfl
end Go.Den.FaT
end
