import Derived.Test.YtifljcjddphpjaaGreatDoorFaTab
import Derived.Test.YtifljcjddphpjaaGreatDoorZQ
import Derived.Test.YtifljcjddphpjaaGreatDoorFaS0
import Derived.Test.YtifljcjddphpjaaGreatDoorFaS1
set_option linter.all false
set_option maxHeartbeats 8000000
set_option maxRecDepth 100000
noncomputable section
namespace Go.Den.FaT
open Go Go.Proofs Go.Den
@[go_sem] theorem fr32 : Fct T 32 false none false ∧ Res1 T 32 44 := by refine ⟨⟨?_, ?_, ?_⟩, res1 T (F := Tryz.f32) ?_ ?_⟩ <;> kernel_rfl
@[go_sem] theorem fr33 : Fct T 33 false none false ∧ Res1 T 33 48 := by refine ⟨⟨?_, ?_, ?_⟩, res1 T (F := Tryz.f33) ?_ ?_⟩ <;> kernel_rfl
@[go_sem] theorem fr35 : Fct T 35 false none false ∧ Res1 T 35 4 := by refine ⟨⟨?_, ?_, ?_⟩, res1 T (F := Tryz.f35) ?_ ?_⟩ <;> kernel_rfl
@[go_sem] theorem fr123 : Fct T 123 false none false ∧ Res1 T 123 44 := by refine ⟨⟨?_, ?_, ?_⟩, res1 T (F := Tryz.f123) ?_ ?_⟩ <;> kernel_rfl
@[go_sem] theorem fr124 : Fct T 124 false none false ∧ Res1 T 124 48 := by refine ⟨⟨?_, ?_, ?_⟩, res1 T (F := Tryz.f124) ?_ ?_⟩ <;> kernel_rfl
@[go_sem] theorem fr125 : Fct T 125 false none false ∧ Res1 T 125 199 := by refine ⟨⟨?_, ?_, ?_⟩, res1 T (F := Tryz.f125) ?_ ?_⟩ <;> kernel_rfl
@[go_sem] theorem fr126 : Fct T 126 false none false ∧ Res1 T 126 4 := by refine ⟨⟨?_, ?_, ?_⟩, res1 T (F := Tryz.f126) ?_ ?_⟩ <;> kernel_rfl
def r32_0 := nv 2 Tryz.f32
def r32_1 := nv 6 Tryz.f32
def r32_2 := nv 28 Tryz.f32
def b32_0 := nv 116 Tryz.f32
def r32_3 := nv 464 Tryz.f32
def r32_5 := nv 1864 Tryz.f32
def r32_6 := nv 7460 Tryz.f32
def b32_1 := nv 29844 Tryz.f32
def r32_7 := nv 119376 Tryz.f32
def r32_9 := nv 477512 Tryz.f32
def r32_10 := nv 1910052 Tryz.f32
def b32_2 := nv 7640212 Tryz.f32
def r32_11 := nv 30560848 Tryz.f32
def r32_13 := nv 122243400 Tryz.f32
def r32_14 := nv 244486802 Tryz.f32
def r32_15 := nv 488973606 Tryz.f32
def r32_12 := nv 30560851 Tryz.f32
def r32_16 := nv 955027 Tryz.f32
def r32_8 := nv 119379 Tryz.f32
def r32_17 := nv 3731 Tryz.f32
def r32_4 := nv 467 Tryz.f32
def r32_18 := nv 30 Tryz.f32
theorem ent32 : Ent T 32 74 (.seq (r32_0) (.seq (r32_1) (.seq (.seq (r32_2) (.block 0 (.loop b32_0))) (.seq (r32_18) (.ret))))) := entI T (F := Tryz.f32) (by kernel_rfl) (by kernel_rfl) (by kernel_rfl)
@[go_sem ↓] theorem run32 : RR r32_0 [oo 2 (.box 25 (.tmp 0)), oo 4 on] ∧ RR r32_1 [oo 5 on] ∧ RR r32_2 [oo 6 (oi 0)] ∧ RR r32_3 [oo 12 (oM 6), oo 13 (oF 25 2 0), oo 14 (oL 22 13), oo 15 (oN 14 22), oo 16 (oB .lss 3 12 15)] ∧ RR r32_5 [oo 7 on] ∧ RR r32_6 [oo 8 (oi 0)] ∧ RR r32_7 [oo 19 (oM 8), oo 20 (oF 25 2 0), oo 21 (oL 22 20), oo 22 (.indexAddr 22 (.tmp 21) (.const (.int .i64 0))), oo 23 (oL 28 22), oo 24 (oN 23 28), oo 25 (oB .lss 3 19 24)] ∧ RR r32_9 [oo 9 (.alloc 142)] ∧ RR r32_10 [oo 10 (oi 0)] ∧ RR r32_11 [oo 28 (oM 10), oo 29 (oM 1), oo 30 (oN 29 28), oo 31 (oB .lss 3 28 30)] ∧ RD r32_13 32 [oo 34 (oF 25 2 2), oo 35 (oL 23 34), oo 36 (oM 1), oo 37 (oM 10), oo 38 (oI 28 36 37), oo 39 (oL 3 38), oo 40 (oI 23 35 39), oo 41 (oL 140 40), oo 11 (.alloc 140), ow 140 11 41] [(0, 2), (1, 2), (0, 3), (1, 3), (2, 3), (0, 4), (1, 4), (0, 5), (1, 5), (0, 8), (1, 8), (2, 8), (3, 8), (4, 8), (5, 8), (6, 8), (7, 8)] ∧ RR r32_14 [oo 42 (oF 140 11 1), oo 43 (oL 3 42), oo 44 (oM 6), oo 45 (oB .eql 3 43 44)] ∧ RD r32_15 32 [oo 46 (oF 142 9 0), oo 47 (oL 3 46), oo 48 (oF 140 11 2), oo 49 (oL 72 48), oo 50 (oM 8), oo 51 (oI 72 49 50), oo 52 (oF 142 51 0), oo 53 (oL 3 52), oo 54 (oB .add 3 47 53), oo 55 (oF 142 9 1), oo 56 (oL 3 55), oo 57 (oF 140 11 2), oo 58 (oL 72 57), oo 59 (oM 8), oo 60 (oI 72 58 59), oo 61 (oF 142 60 1), oo 62 (oL 3 61), oo 63 (oB .add 3 56 62), oo 64 (.build 142 #[(0, .tmp 54), (1, .tmp 63)]), ow 142 9 64] [(0, 2), (1, 2), (0, 3), (1, 3), (0, 4), (1, 4), (2, 4), (3, 4), (0, 5), (1, 5), (0, 6), (1, 6), (0, 7), (1, 7), (0, 9), (1, 9), (2, 9), (3, 9), (4, 9), (5, 9), (6, 9), (7, 9), (8, 9), (0, 10), (1, 10), (2, 10), (3, 10), (4, 10), (5, 10), (6, 10), (7, 10), (8, 10), (0, 11), (1, 11), (2, 11), (3, 11), (4, 11), (5, 11), (6, 11), (7, 11), (8, 11), (9, 11), (10, 11), (0, 12), (1, 12), (2, 12), (3, 12), (4, 12), (5, 12), (6, 12), (7, 12), (8, 12), (9, 12), (10, 12), (0, 13), (1, 13), (2, 13), (3, 13), (4, 13), (5, 13), (6, 13), (7, 13), (8, 13), (9, 13), (10, 13), (11, 13), (12, 13), (0, 14), (1, 14), (2, 14), (3, 14), (4, 14), (5, 14), (6, 14), (7, 14), (8, 14), (9, 14), (10, 14), (0, 15), (1, 15), (2, 15), (3, 15), (4, 15), (5, 15), (6, 15), (7, 15), (8, 15), (9, 15), (10, 15), (0, 16), (1, 16), (2, 16), (3, 16), (4, 16), (5, 16), (6, 16), (7, 16), (8, 16), (9, 16), (10, 16), (0, 17), (1, 17), (2, 17), (3, 17), (4, 17), (5, 17), (6, 17), (7, 17), (8, 17)] ∧ RR r32_12 [oo 32 (oM 10), oo 33 (oC .add 3 32 1), oo 10 (oG 33)] ∧ RI b32_2 (.seq (.seq (r32_11) (.cond (.tmp 31) (.skip) (.exit 4))) (.seq (.block 5 (.seq (r32_13) (.seq (r32_14) (.cond (.tmp 45) (r32_15) (.skip))))) (r32_12))) ∧ KeepS T 32 b32_2 [1, 2, 5, 6, 7, 8, 9, 10] ∧ RR r32_16 [oo 65 (oM 7), oo 66 (oL 142 9), oo 67 (oS 72 66), oo 68 (oA 65 67 72), oo 7 (oG 68)] ∧ RR r32_8 [oo 26 (oM 8), oo 27 (oC .add 3 26 1), oo 8 (oG 27)] ∧ RI b32_1 (.seq (.seq (r32_7) (.cond (.tmp 25) (.skip) (.exit 2))) (.seq (.block 3 (.seq (r32_9) (.seq (.seq (r32_10) (.block 4 (.loop b32_2))) (r32_16)))) (r32_8))) ∧ KeepS T 32 b32_1 [1, 2, 5, 6, 7, 8] ∧ RR r32_17 [oo 69 (oM 5), oo 70 (oM 7), oo 71 (oS 44 70), oo 72 (oA 69 71 44), oo 5 (oG 72)] ∧ RR r32_4 [oo 17 (oM 6), oo 18 (oC .add 3 17 1), oo 6 (oG 18)] ∧ RI b32_0 (.seq (.seq (r32_3) (.cond (.tmp 16) (.skip) (.exit 0))) (.seq (.block 1 (.seq (r32_5) (.seq (.seq (r32_6) (.block 2 (.loop b32_1))) (r32_17)))) (r32_4))) ∧ KeepS T 32 b32_0 [1, 2, 5, 6] ∧ RR r32_18 [oo 73 (oM 5), oo 4 (oG 73)] ∧ FinF T 32 [.tmp 4] false := by refine ⟨runR T ?_, runR T ?_, runR T ?_, runR T ?_, runR T ?_, runR T ?_, runR T ?_, runR T ?_, runR T ?_, runR T ?_, runD T (id := 13) ?_ ?_, runR T ?_, runD T (id := 15) ?_ ?_, runR T ?_, runIc T ?_, keepS T ?_, runR T ?_, runR T ?_, runIc T ?_, keepS T ?_, runR T ?_, runR T ?_, runIc T ?_, keepS T ?_, runR T ?_, finI T (F := Tryz.f32) ?_ ?_ ?_⟩ <;> kernel_rfl
def r33_0 := nv 2 Tryz.f33
def r33_1 := nv 6 Tryz.f33
def r33_2 := nv 14 Tryz.f33
def r33_3 := nv 60 Tryz.f33
def b33_0 := nv 244 Tryz.f33
def r33_4 := nv 976 Tryz.f33
def r33_6 := nv 3912 Tryz.f33
def b33_1 := nv 15652 Tryz.f33
def r33_7 := nv 62608 Tryz.f33
def r33_9 := nv 250440 Tryz.f33
def r33_10 := nv 500882 Tryz.f33
def r33_8 := nv 62611 Tryz.f33
def r33_5 := nv 979 Tryz.f33
def r33_11 := nv 62 Tryz.f33
theorem ent33 : Ent T 33 77 (.seq (r33_0) (.seq (r33_1) (.seq (r33_2) (.seq (.seq (r33_3) (.block 0 (.loop b33_0))) (.seq (r33_11) (.ret)))))) := entI T (F := Tryz.f33) (by kernel_rfl) (by kernel_rfl) (by kernel_rfl)
@[go_sem ↓] theorem run33 : RR r33_0 [oo 2 (.box 25 (.tmp 0)), oo 4 on] ∧ RD r33_1 33 [oo 10 (oL 25 2), oo 11 (o1 22 10 25), oo 12 (oL 25 2), oo 13 (oM 1), oo 14 (o2 32 12 13 25 28), oo 5 (oG 11), oo 6 (oG 14)] [(0, 2), (1, 2), (0, 3), (1, 3), (2, 3)] ∧ RR r33_2 [oo 7 on] ∧ RR r33_3 [oo 8 (oi 0)] ∧ RR r33_4 [oo 15 (oM 8), oo 16 (oM 5), oo 17 (oN 16 22), oo 18 (oB .lss 3 15 17)] ∧ RR r33_6 [oo 9 (oi 0)] ∧ RR r33_7 [oo 21 (oM 9), oo 22 (oM 5), oo 23 (oM 8), oo 24 (oI 22 22 23), oo 25 (oL 28 24), oo 26 (oN 25 28), oo 27 (oB .lss 3 21 26)] ∧ RD r33_9 33 [oo 30 (oM 5), oo 31 (oM 8), oo 32 (oI 22 30 31), oo 33 (oL 28 32), oo 34 (oM 9), oo 35 (oI 28 33 34), oo 36 (oL 3 35), oo 37 (oM 6), oo 38 (oM 8), oo 39 (oI 44 37 38), oo 40 (oL 72 39), oo 41 (oM 9), oo 42 (oI 72 40 41), oo 43 (oF 142 42 0), oo 44 (oL 3 43), oo 45 (oF 25 2 1), oo 46 (oL 3 45), oo 47 (oB .sub 3 44 46), oo 48 (oB .lss 3 36 47), oo 49 (oM 48), of 50 (oM 5) 49, of 51 (oM 8) 49, of 52 (oI 22 50 51) 49, of 53 (oL 28 52) 49, of 54 (oM 9) 49, of 55 (oI 28 53 54) 49, of 56 (oL 3 55) 49, of 57 (oM 6) 49, of 58 (oM 8) 49, of 59 (oI 44 57 58) 49, of 60 (oL 72 59) 49, of 61 (oM 9) 49, of 62 (oI 72 60 61) 49, of 63 (oF 142 62 1) 49, of 64 (oL 3 63) 49, of 65 (oF 25 2 1) 49, of 66 (oL 3 65) 49, of 67 (oB .add 3 64 66) 49, of 68 (oB .gtr 3 56 67) 49, oo 69 (.pick (.tmp 49) (.const (.bool true)) (.tmp 68))] [(0, 1), (0, 4), (1, 4), (2, 4), (3, 4), (0, 7), (1, 7), (2, 7), (3, 7), (4, 7), (5, 7), (6, 7), (0, 8), (1, 8), (2, 8), (3, 8), (4, 8), (5, 8), (6, 8), (7, 8), (0, 9), (1, 9), (2, 9), (3, 9), (4, 9), (5, 9), (6, 9), (0, 10), (1, 10), (2, 10), (3, 10), (4, 10), (5, 10), (6, 10), (0, 11), (1, 11), (2, 11), (3, 11), (4, 11), (5, 11), (6, 11), (7, 11), (8, 11), (9, 11), (10, 11), (0, 12), (1, 12), (2, 12), (3, 12), (4, 12), (5, 12), (6, 12), (0, 13), (1, 13), (2, 13), (3, 13), (4, 13), (5, 13), (6, 13), (0, 14), (1, 14), (2, 14), (3, 14), (4, 14), (5, 14), (6, 14), (0, 15), (1, 15), (2, 15), (3, 15), (4, 15), (5, 15), (6, 15), (7, 15), (8, 15), (9, 15), (10, 15), (11, 15), (12, 15), (13, 15), (14, 15), (0, 16), (1, 16), (2, 16), (3, 16), (4, 16), (5, 16), (6, 16), (7, 16), (8, 16), (9, 16), (10, 16), (11, 16), (12, 16), (13, 16), (14, 16), (0, 17), (1, 17), (2, 17), (3, 17), (4, 17), (5, 17), (6, 17), (20, 21), (20, 24), (21, 24), (22, 24), (23, 24), (20, 27), (21, 27), (22, 27), (23, 27), (24, 27), (25, 27), (26, 27), (20, 28), (21, 28), (22, 28), (23, 28), (24, 28), (25, 28), (26, 28), (27, 28), (20, 29), (21, 29), (22, 29), (23, 29), (24, 29), (25, 29), (26, 29), (20, 30), (21, 30), (22, 30), (23, 30), (24, 30), (25, 30), (26, 30), (20, 31), (21, 31), (22, 31), (23, 31), (24, 31), (25, 31), (26, 31), (27, 31), (28, 31), (29, 31), (30, 31), (20, 32), (21, 32), (22, 32), (23, 32), (24, 32), (25, 32), (26, 32), (20, 33), (21, 33), (22, 33), (23, 33), (24, 33), (25, 33), (26, 33), (20, 34), (21, 34), (22, 34), (23, 34), (24, 34), (25, 34), (26, 34), (20, 35), (21, 35), (22, 35), (23, 35), (24, 35), (25, 35), (26, 35), (27, 35), (28, 35), (29, 35), (30, 35), (31, 35), (32, 35), (33, 35), (34, 35), (20, 36), (21, 36), (22, 36), (23, 36), (24, 36), (25, 36), (26, 36), (27, 36), (28, 36), (29, 36), (30, 36), (31, 36), (32, 36), (33, 36), (34, 36), (20, 37), (21, 37), (22, 37), (23, 37), (24, 37), (25, 37), (26, 37)] ∧ RR r33_10 [oo 70 (oM 7), oo 71 (oM 8), oo 72 (oM 9), oo 73 (.build 100 #[(0, .tmp 71), (1, .tmp 72)]), oo 74 (oS 48 73), oo 75 (oA 70 74 48), oo 7 (oG 75)] ∧ RR r33_8 [oo 28 (oM 9), oo 29 (oC .add 3 28 1), oo 9 (oG 29)] ∧ RI b33_1 (.seq (.seq (r33_7) (.cond (.tmp 27) (.skip) (.exit 2))) (.seq (.block 3 (.seq (r33_9) (.cond (.tmp 69) (r33_10) (.skip)))) (r33_8))) ∧ KeepS T 33 b33_1 [2, 5, 6, 7, 8, 9] ∧ RR r33_5 [oo 19 (oM 8), oo 20 (oC .add 3 19 1), oo 8 (oG 20)] ∧ RI b33_0 (.seq (.seq (r33_4) (.cond (.tmp 18) (.skip) (.exit 0))) (.seq (.block 1 (.seq (r33_6) (.block 2 (.loop b33_1)))) (r33_5))) ∧ KeepS T 33 b33_0 [2, 5, 6, 7, 8] ∧ RR r33_11 [oo 76 (oM 7), oo 4 (oG 76)] ∧ FinF T 33 [.tmp 4] false := by refine ⟨runR T ?_, runD T (id := 1) ?_ ?_, runR T ?_, runR T ?_, runR T ?_, runR T ?_, runR T ?_, runD T (id := 9) ?_ ?_, runR T ?_, runR T ?_, runIc T ?_, keepS T ?_, runR T ?_, runIc T ?_, keepS T ?_, runR T ?_, finI T (F := Tryz.f33) ?_ ?_ ?_⟩ <;> kernel_rfl
@[go_sem] theorem fr103 : Fct T 103 false none false ∧ Res1 T 103 4 := by refine ⟨⟨?_, ?_, ?_⟩, res1 T (F := Tryz.f103) ?_ ?_⟩ <;> kernel_rfl
def r35_0 := nv 2 Tryz.f35
def r35_1 := nv 12 Tryz.f35
def r35_2 := nv 26 Tryz.f35
def r35_3 := nv 14 Tryz.f35
theorem ent35 : Ent T 35 19 (.seq (r35_0) (.seq (.seq (r35_1) (.cond (.tmp 10) (r35_2) (.skip))) (.seq (r35_3) (.ret)))) := entI T (F := Tryz.f35) (by kernel_rfl) (by kernel_rfl) (by kernel_rfl)
@[go_sem ↓] theorem run35 : RR r35_0 [oo 8 (.assign (.const (.bool false)))] ∧ RR r35_1 [oo 9 (oM 2), oo 10 (oC .neq 3 9 0)] ∧ RR r35_2 [oo 3 on] ∧ RR r35_3 [oo 11 (oM 0), oo 12 (oM 3), oo 13 (o2 103 11 12 48 48), oo 14 (oM 13), ot 15 (oM 1) 14, ot 16 (oM 2) 14, ot 17 (oB .eql 3 15 16) 14, oo 18 (.pick (.tmp 14) (.tmp 17) (.const (.bool false))), oo 8 (oG 18)] ∧ FinF T 35 [.tmp 8] false := by refine ⟨runR T ?_, runR T ?_, runR T ?_, runR T ?_, finI T (F := Tryz.f35) ?_ ?_ ?_⟩ <;> kernel_rfl
def r103_0 := nv 2 Tryz.f103
def r103_1 := nv 12 Tryz.f103
def r103_2 := nv 52 Tryz.f103
def r103_3 := nv 28 Tryz.f103
def b103_0 := nv 116 Tryz.f103
def r103_4 := nv 464 Tryz.f103
def r103_6 := nv 1864 Tryz.f103
def r103_7 := nv 7460 Tryz.f103
def r103_5 := nv 467 Tryz.f103
def r103_8 := nv 30 Tryz.f103
theorem ent103 : Ent T 103 26 (.seq (r103_0) (.seq (.seq (r103_1) (.cond (.tmp 10) (.seq (r103_2) (.ret)) (.skip))) (.seq (.seq (r103_3) (.block 0 (.loop b103_0))) (.seq (r103_8) (.ret))))) := entI T (F := Tryz.f103) (by kernel_rfl) (by kernel_rfl) (by kernel_rfl)
@[go_sem ↓] theorem run103 : RR r103_0 [oo 4 (.assign (.const (.bool false)))] ∧ RR r103_1 [oo 6 (oM 0), oo 7 (oN 6 48), oo 8 (oM 1), oo 9 (oN 8 48), oo 10 (oB .neq 3 7 9)] ∧ RR r103_2 [oo 4 (.assign (.const (.bool false)))] ∧ RR r103_3 [oo 5 (oi 0)] ∧ RR r103_4 [oo 11 (oM 5), oo 12 (oM 0), oo 13 (oN 12 48), oo 14 (oB .lss 3 11 13)] ∧ RD r103_6 103 [oo 17 (oM 0), oo 18 (oM 5), oo 19 (oI 48 17 18), oo 20 (oL 100 19), oo 21 (oM 1), oo 22 (oM 5), oo 23 (oI 48 21 22), oo 24 (oL 100 23), oo 25 (oB .neq 100 20 24)] [(0, 1), (0, 4), (1, 4), (2, 4), (3, 4), (0, 5), (1, 5), (2, 5), (3, 5), (4, 5), (0, 6), (1, 6), (2, 6), (3, 6), (0, 7), (1, 7), (2, 7), (3, 7)] ∧ RR r103_7 [oo 4 (.assign (.const (.bool false)))] ∧ RR r103_5 [oo 15 (oM 5), oo 16 (oC .add 3 15 1), oo 5 (oG 16)] ∧ RI b103_0 (.seq (.seq (r103_4) (.cond (.tmp 14) (.skip) (.exit 0))) (.seq (.block 1 (.seq (r103_6) (.cond (.tmp 25) (.seq (r103_7) (.ret)) (.skip)))) (r103_5))) ∧ KeepS T 103 b103_0 [0, 1, 5] ∧ RR r103_8 [oo 4 (.assign (.const (.bool true)))] ∧ FinF T 103 [.tmp 4] false := by refine ⟨runR T ?_, runR T ?_, runR T ?_, runR T ?_, runR T ?_, runD T (id := 6) ?_ ?_, runR T ?_, runR T ?_, runIc T ?_, keepS T ?_, runR T ?_, finI T (F := Tryz.f103) ?_ ?_ ?_⟩ <;> kernel_rfl
@[go_sem] theorem fr194 : Fct T 194 true none true ∧ Res1 T 194 44 := by refine ⟨⟨?_, ?_, ?_⟩, res1 T (F := Tryz.f194) ?_ ?_⟩ <;> kernel_rfl
@[go_sem] theorem fr195 : Fct T 195 true none false ∧ Res1 T 195 72 := by refine ⟨⟨?_, ?_, ?_⟩, res1 T (F := Tryz.f195) ?_ ?_⟩ <;> kernel_rfl
def r123_0 := nv 2 Tryz.f123
def r123_1 := nv 6 Tryz.f123
def r123_2 := nv 28 Tryz.f123
def b123_0 := nv 116 Tryz.f123
def r123_3 := nv 232 Tryz.f123
def r123_4 := nv 3736 Tryz.f123
def r123_5 := nv 7474 Tryz.f123
def r123_6 := nv 14950 Tryz.f123
def b123_1 := nv 59804 Tryz.f123
def r123_7 := nv 119608 Tryz.f123
def r123_8 := nv 1913752 Tryz.f123
def r123_9 := nv 3827506 Tryz.f123
def r123_10 := nv 3827507 Tryz.f123
def r123_11 := nv 478439 Tryz.f123
def r123_12 := nv 935 Tryz.f123
def r123_13 := nv 30 Tryz.f123
theorem ent123 : Ent T 123 64 (.seq (r123_0) (.seq (r123_1) (.seq (.seq (r123_2) (.block 0 (.loop b123_0))) (.seq (r123_13) (.ret))))) := entI T (F := Tryz.f123) (by kernel_rfl) (by kernel_rfl) (by kernel_rfl)
@[go_sem ↓] theorem run123 : RR r123_0 [oo 2 (.box 34 (.tmp 0)), oo 4 on] ∧ RR r123_1 [oo 11 (oF 34 2 0), oo 12 (oL 22 11), oo 13 (.call ⟨.value (.func 194), #[.tmp 12, .func 195], #[22, 279]⟩), oo 5 (oG 13)] ∧ RR r123_2 [oo 14 (oM 1), oo 15 (oN 14 28), oo 16 (.move (.const (.int .i64 0)))] ∧ RR r123_3 [oo 17 (oB .lss 3 16 15)] ∧ RR r123_4 [oo 18 (oI 28 14 16), oo 19 (oL 3 18), oo 7 (oG 19)] ∧ RR r123_5 [oo 20 (oF 34 2 2), oo 21 (oL 32 20), oo 22 (oM 7), oo 23 (oI 32 21 22), oo 24 (oL 180 23), oo 8 (.alloc 180), ow 180 8 24] ∧ RR r123_6 [oo 25 (oF 180 8 2), oo 26 (oL 72 25), oo 27 (oN 26 72), oo 28 (.move (.const (.int .i64 0)))] ∧ RR r123_7 [oo 29 (oB .lss 3 28 27)] ∧ RR r123_8 [oo 30 (oM 28), oo 31 (oI 72 26 28), oo 32 (oL 142 31), oo 10 (.alloc 142), oo 9 (oG 30), ow 142 10 32] ∧ RD r123_9 123 [oo 33 (oM 5), oo 34 (oF 180 8 1), oo 35 (oL 3 34), oo 36 (oI 44 33 35), oo 37 (oL 72 36), oo 38 (oM 9), oo 39 (oI 72 37 38), oo 40 (oF 142 39 0), oo 41 (oL 3 40), oo 42 (oF 142 10 0), oo 43 (oL 3 42), oo 44 (oB .add 3 41 43), oo 45 (oI 72 37 38), oo 46 (oF 142 45 0), ow 3 46 44] [(0, 1), (0, 2), (0, 5), (1, 5), (2, 5), (3, 5), (4, 5), (0, 9), (1, 9), (2, 9), (3, 9), (4, 9), (5, 9), (6, 9), (7, 9), (8, 9), (0, 10), (1, 10), (2, 10), (3, 10), (4, 10), (5, 10), (6, 10), (7, 10), (8, 10)] ∧ RD r123_10 123 [oo 47 (oM 5), oo 48 (oF 180 8 1), oo 49 (oL 3 48), oo 50 (oI 44 47 49), oo 51 (oL 72 50), oo 52 (oM 9), oo 53 (oI 72 51 52), oo 54 (oF 142 53 1), oo 55 (oL 3 54), oo 56 (oF 142 10 1), oo 57 (oL 3 56), oo 58 (oB .add 3 55 57), oo 59 (oI 72 51 52), oo 60 (oF 142 59 1), ow 3 60 58] [(0, 1), (0, 2), (0, 5), (1, 5), (2, 5), (3, 5), (4, 5), (0, 9), (1, 9), (2, 9), (3, 9), (4, 9), (5, 9), (6, 9), (7, 9), (8, 9), (0, 10), (1, 10), (2, 10), (3, 10), (4, 10), (5, 10), (6, 10), (7, 10), (8, 10)] ∧ RR r123_11 [oo 61 (oC .add 3 28 1), oo 28 (oM 61)] ∧ RI b123_1 (.seq (r123_7) (.seq (.cond (.tmp 29) (.skip) (.exit 2)) (.seq (.block 3 (.seq (r123_8) (.seq (r123_9) (r123_10)))) (r123_11)))) ∧ KeepS T 123 b123_1 [2, 5, 8, 14, 15, 16, 26, 27, 28] ∧ RR r123_12 [oo 62 (oC .add 3 16 1), oo 16 (oM 62)] ∧ RI b123_0 (.seq (r123_3) (.seq (.cond (.tmp 17) (.skip) (.exit 0)) (.seq (.block 1 (.seq (r123_4) (.seq (r123_5) (.seq (r123_6) (.block 2 (.loop b123_1)))))) (r123_12)))) ∧ KeepS T 123 b123_0 [2, 5, 14, 15, 16] ∧ RR r123_13 [oo 63 (oM 5), oo 4 (oG 63)] ∧ FinF T 123 [.tmp 4] false := by refine ⟨runR T ?_, runR T ?_, runR T ?_, runR T ?_, runR T ?_, runR T ?_, runR T ?_, runR T ?_, runR T ?_, runD T (id := 9) ?_ ?_, runD T (id := 10) ?_ ?_, runR T ?_, runIc T ?_, keepS T ?_, runR T ?_, runIc T ?_, keepS T ?_, runR T ?_, finI T (F := Tryz.f123) ?_ ?_ ?_⟩ <;> kernel_rfl
@[go_sem] theorem fr196 : Fct T 196 false none false ∧ Res1 T 196 48 := by refine ⟨⟨?_, ?_, ?_⟩, res1 T (F := Tryz.f196) ?_ ?_⟩ <;> kernel_rfl
def r124_0 := nv 2 Tryz.f124
def r124_1 := nv 6 Tryz.f124
theorem ent124 : Ent T 124 5 (.seq (r124_0) (.seq (r124_1) (.ret))) := entI T (F := Tryz.f124) (by kernel_rfl) (by kernel_rfl) (by kernel_rfl)
@[go_sem ↓] theorem run124 : RR r124_0 [oo 2 on] ∧ RR r124_1 [oo 3 (oM 0), oo 4 (.call ⟨.value (.func 196), #[.const (.slice none 0 0), .tmp 3], #[48, 199]⟩), oo 2 (oG 4)] ∧ FinF T 124 [.tmp 2] false := by refine ⟨runR T ?_, runR T ?_, finI T (F := Tryz.f124) ?_ ?_ ?_⟩ <;> kernel_rfl
@[go_sem] theorem fct197 : Fct T 197 false none false := ⟨by kernel_rfl, by kernel_rfl, by kernel_rfl⟩
@[go_sem] theorem res197 : Res0 T 197 := res0 T (F := Tryz.f197) (by kernel_rfl) (by kernel_rfl)
def r125_0 := nv 2 Tryz.f125
def r125_1 := nv 6 Tryz.f125
def r125_2 := nv 14 Tryz.f125
theorem ent125 : Ent T 125 13 (.seq (r125_0) (.seq (r125_1) (.seq (r125_2) (.ret)))) := entI T (F := Tryz.f125) (by kernel_rfl) (by kernel_rfl) (by kernel_rfl)
@[go_sem ↓] theorem run125 : RR r125_0 [oo 2 (.box 34 (.tmp 0)), oo 4 (.assign (.const (.nilFunc)))] ∧ RD r125_1 125 [oo 7 (oL 34 2), oo 8 (o1 107 7 34), oo 9 (oL 34 2), oo 10 (oM 1), oo 11 (o2 123 9 10 34 28), oo 5 (.alloc 22), oo 6 (.alloc 44), ow 22 5 8, ow 44 6 11] [(0, 2), (1, 2), (0, 3), (1, 3), (2, 3), (0, 5), (1, 5), (2, 5), (3, 5), (4, 5), (0, 6), (1, 6), (2, 6), (3, 6), (4, 6), (5, 6)] ∧ RR r125_2 [oo 12 (.makeFunc (.func 197) #[] #[.tmp 5, .tmp 6, .tmp 2]), oo 4 (oG 12)] ∧ FinF T 125 [.tmp 4] false := by refine ⟨runR T ?_, runD T (id := 1) ?_ ?_, runR T ?_, finI T (F := Tryz.f125) ?_ ?_ ?_⟩ <;> kernel_rfl
def r126_0 := nv 2 Tryz.f126
def r126_1 := nv 12 Tryz.f126
def a126_0 := nv 52 Tryz.f126
def c126_0 := nv 53 Tryz.f126
def r126_2 := nv 212 Tryz.f126
def r126_3 := nv 14 Tryz.f126
theorem ent126 : Ent T 126 9 (.seq (r126_0) (.seq (.seq (r126_1) (.block 0 (.rangeFunc (.tmp 7) #[8] a126_0 c126_0))) (.seq (r126_3) (.ret)))) := entI T (F := Tryz.f126) (by kernel_rfl) (by kernel_rfl) (by kernel_rfl)
@[go_sem ↓] theorem run126 : RR r126_0 [oo 2 (.box 34 (.tmp 0)), oo 4 (.alloc 4)] ∧ RR r126_1 [oo 5 (oL 34 2), oo 6 (oM 1), oo 7 (o2 125 5 6 34 28)] ∧ RR r126_2 [⟨none, .store 4 (.tmp 4) (.const (.bool false)), none⟩] ∧ RI a126_0 (.skip) ∧ RI c126_0 (.block 1 (.seq (r126_2) (.ret))) ∧ RR r126_3 [⟨none, .store 4 (.tmp 4) (.const (.bool true)), none⟩] ∧ FinF T 126 [.cell 4 4] false := by refine ⟨runR T ?_, runR T ?_, runR T ?_, runIc T ?_, runIc T ?_, runR T ?_, finI T (F := Tryz.f126) ?_ ?_ ?_⟩ <;> kernel_rfl
def r194_0 := nv 2 Tryz.f194
def r194_1 := nv 6 Tryz.f194
def r194_2 := nv 28 Tryz.f194
def b194_0 := nv 116 Tryz.f194
def r194_3 := nv 232 Tryz.f194
def r194_4 := nv 3736 Tryz.f194
def r194_5 := nv 3737 Tryz.f194
def r194_6 := nv 935 Tryz.f194
def r194_7 := nv 30 Tryz.f194
theorem ent194 : Ent T 194 22 (.seq (r194_0) (.seq (r194_1) (.seq (.seq (r194_2) (.block 0 (.loop b194_0))) (.seq (r194_7) (.ret))))) := entI T (F := Tryz.f194) (by kernel_rfl) (by kernel_rfl) (by kernel_rfl)
@[go_sem ↓] theorem run194 : RR r194_0 [oo 4 on] ∧ RR r194_1 [oo 5 on] ∧ RR r194_2 [oo 8 (oM 0), oo 9 (oN 8 22), oo 10 (.move (.const (.int .i64 0)))] ∧ RR r194_3 [oo 11 (oB .lss 3 10 9)] ∧ RR r194_4 [oo 12 (oI 22 8 10), oo 13 (oL 28 12), oo 7 (oG 13)] ∧ RR r194_5 [oo 14 (oM 5), oo 15 (oM 1), oo 16 (oM 7), oo 17 (.call ⟨.value (.tmp 15), #[.tmp 16], #[28]⟩), oo 18 (oS 44 17), oo 19 (oA 14 18 44), oo 5 (oG 19)] ∧ RR r194_6 [oo 20 (oC .add 3 10 1), oo 10 (oM 20)] ∧ RI b194_0 (.seq (r194_3) (.seq (.cond (.tmp 11) (.skip) (.exit 0)) (.seq (.block 1 (.seq (r194_4) (r194_5))) (r194_6)))) ∧ KeepS T 194 b194_0 [1, 5, 8, 9, 10] ∧ RR r194_7 [oo 21 (oM 5), oo 4 (oG 21)] ∧ FinF T 194 [.tmp 4] true := by refine ⟨runR T ?_, runR T ?_, runR T ?_, runR T ?_, runR T ?_, runR T ?_, runR T ?_, runIc T ?_, keepS T ?_, runR T ?_, finI T (F := Tryz.f194) ?_ ?_ ?_⟩ <;> kernel_rfl
def r195_0 := nv 2 Tryz.f195
def r195_1 := nv 6 Tryz.f195
theorem ent195 : Ent T 195 6 (.seq (r195_0) (.seq (r195_1) (.ret))) := entI T (F := Tryz.f195) (by kernel_rfl) (by kernel_rfl) (by kernel_rfl)
@[go_sem ↓] theorem run195 : RR r195_0 [oo 2 on] ∧ RR r195_1 [oo 3 (oM 0), oo 4 (oN 3 28), oo 5 (.makeSlice 72 (.tmp 4) (.tmp 4)), oo 2 (oG 5)] ∧ FinF T 195 [.tmp 2] true := by refine ⟨runR T ?_, runR T ?_, finI T (F := Tryz.f195) ?_ ?_ ?_⟩ <;> kernel_rfl
def r196_0 := nv 2 Tryz.f196
def r196_1 := nv 12 Tryz.f196
def a196_0 := nv 52 Tryz.f196
def c196_0 := nv 53 Tryz.f196
def r196_2 := nv 52 Tryz.f196
def r196_3 := nv 106 Tryz.f196
def r196_4 := nv 14 Tryz.f196
theorem ent196 : Ent T 196 13 (.seq (r196_0) (.seq (.seq (r196_1) (.block 0 (.rangeFunc (.tmp 6) #[7] a196_0 c196_0))) (.seq (r196_4) (.ret)))) := entI T (F := Tryz.f196) (by kernel_rfl) (by kernel_rfl) (by kernel_rfl)
@[go_sem ↓] theorem run196 : RR r196_0 [oo 2 (.box 48 (.tmp 0)), oo 4 on] ∧ RR r196_1 [oo 6 (oM 1)] ∧ RR r196_2 [oo 5 (.alloc 100), ow 100 5 7] ∧ RR r196_3 [oo 8 (oL 48 2), oo 9 (oL 100 5), oo 10 (oS 48 9), oo 11 (oA 8 10 48), ow 48 2 11] ∧ RI a196_0 (r196_2) ∧ RI c196_0 (.block 1 (r196_3)) ∧ RR r196_4 [oo 12 (oL 48 2), oo 4 (oG 12)] ∧ FinF T 196 [.tmp 4] false := by refine ⟨runR T ?_, runR T ?_, runR T ?_, runR T ?_, runIc T ?_, runIc T ?_, runR T ?_, finI T (F := Tryz.f196) ?_ ?_ ?_⟩ <;> kernel_rfl
def r197_0 := nv 2 Tryz.f197
def b197_0 := nv 12 Tryz.f197
def r197_1 := nv 24 Tryz.f197
def r197_2 := nv 408 Tryz.f197
def r197_3 := nv 818 Tryz.f197
def b197_1 := nv 3276 Tryz.f197
def r197_4 := nv 6552 Tryz.f197
def r197_5 := nv 104856 Tryz.f197
def r197_6 := nv 209714 Tryz.f197
def r197_7 := nv 419430 Tryz.f197
def r197_8 := nv 26215 Tryz.f197
def r197_9 := nv 103 Tryz.f197
theorem ent197 : Ent T 197 57 (.seq (r197_0) (.block 0 (.loop b197_0))) := entI T (F := Tryz.f197) (by kernel_rfl) (by kernel_rfl) (by kernel_rfl)
@[go_sem ↓] theorem run197 : RR r197_0 [oo 10 (oL 22 1), oo 11 (oN 10 22), oo 12 (.move (.const (.int .i64 0)))] ∧ RR r197_1 [oo 13 (oB .lss 3 12 11)] ∧ RR r197_2 [oo 14 (oM 12), oo 15 (oI 22 10 12), oo 16 (oL 28 15), oo 5 (oG 14), oo 6 (oG 16)] ∧ RR r197_3 [oo 17 (oM 6), oo 18 (oN 17 28), oo 19 (.move (.const (.int .i64 0)))] ∧ RR r197_4 [oo 20 (oB .lss 3 19 18)] ∧ RR r197_5 [oo 21 (oM 19), oo 22 (oI 28 17 19), oo 23 (oL 3 22), oo 7 (oG 21), oo 8 (oG 23)] ∧ RR r197_6 [oo 24 (oL 44 2), oo 25 (oM 5), oo 26 (oI 44 24 25), oo 27 (oL 72 26), oo 28 (oM 7), oo 29 (oI 72 27 28), oo 30 (oL 142 29), oo 9 (.alloc 142), ow 142 9 30] ∧ RR r197_7 [oo 31 (oM 8), oo 32 (oF 142 9 0), oo 33 (oL 3 32), oo 34 (oF 34 3 1), oo 35 (oL 3 34), oo 36 (oB .sub 3 33 35), oo 37 (oB .lss 3 31 36), oo 38 (oM 37), of 39 (oM 8) 38, of 40 (oF 142 9 1) 38, of 41 (oL 3 40) 38, of 42 (oF 34 3 1) 38, of 43 (oL 3 42) 38, of 44 (oB .add 3 41 43) 38, of 45 (oB .gtr 3 39 44) 38, oo 46 (.pick (.tmp 38) (.const (.bool true)) (.tmp 45)), oo 47 (oM 46), ot 48 (oM 0) 47, ot 49 (oM 5) 47, ot 50 (oM 7) 47, ot 51 (.build 100 #[(0, .tmp 49), (1, .tmp 50)]) 47, ot 52 (.call ⟨.value (.tmp 48), #[.tmp 51], #[100]⟩) 47, ot 53 (.unOp .not 4 (.tmp 52)) 47, oo 54 (.pick (.tmp 47) (.tmp 53) (.const (.bool false)))] ∧ RR r197_8 [oo 55 (oC .add 3 19 1), oo 19 (oM 55)] ∧ RI b197_1 (.seq (r197_4) (.seq (.cond (.tmp 20) (.skip) (.exit 2)) (.seq (.block 3 (.seq (r197_5) (.seq (r197_6) (.seq (r197_7) (.cond (.tmp 54) (.ret) (.skip)))))) (r197_8)))) ∧ KeepS T 197 b197_1 [0, 2, 3, 5, 10, 11, 12, 17, 18, 19] ∧ RR r197_9 [oo 56 (oC .add 3 12 1), oo 12 (oM 56)] ∧ RI b197_0 (.seq (r197_1) (.seq (.cond (.tmp 13) (.skip) (.exit 0)) (.seq (.block 1 (.seq (r197_2) (.seq (r197_3) (.block 2 (.loop b197_1))))) (r197_9)))) ∧ KeepS T 197 b197_0 [0, 2, 3, 10, 11, 12] ∧ FinF T 197 [] false := by refine ⟨runR T ?_, runR T ?_, runR T ?_, runR T ?_, runR T ?_, runR T ?_, runR T ?_, runR T ?_, runR T ?_, runIc T ?_, keepS T ?_, runR T ?_, runIc T ?_, keepS T ?_, finI T (F := Tryz.f197) ?_ ?_ ?_⟩ <;> kernel_rfl
end Go.Den.FaT
end
