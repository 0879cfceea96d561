import Derived.Test.YtifljcjddphpjaaGreatDoorFaTab
import Derived.Test.YtifljcjddphpjaaGreatDoorZR
import Derived.Test.YtifljcjddphpjaaGreatDoorFaTi
set_option linter.all false
set_option maxHeartbeats 8000000
set_option maxRecDepth 100000
noncomputable section
namespace Go.Den.FaT
open Go Go.Proofs Go.Den
abbrev RR (c : Code) (os : List SO) : Prop := RunR T c os
abbrev RD (c : Code) (f : Nat) (os : List SO) (ps : List (Nat × Nat)) : Prop := RunD T c f os ps
abbrev RI (r c : Code) : Prop := RunIc T r c
@[go_sem] theorem fr15 : Fct T 15 false none false ∧ Res1 T 15 4 := by refine ⟨⟨?_, ?_, ?_⟩, res1 T (F := Tryz.f15) ?_ ?_⟩ <;> kernel_rfl
@[go_sem] theorem fr101 : Fct T 101 false none false ∧ Res1 T 101 4 := by refine ⟨⟨?_, ?_, ?_⟩, res1 T (F := Tryz.f101) ?_ ?_⟩ <;> kernel_rfl
def r15_0 := nv 2 Tryz.f15
def r15_1 := nv 12 Tryz.f15
def r15_2 := nv 52 Tryz.f15
def r15_3 := nv 28 Tryz.f15
def b15_0 := nv 116 Tryz.f15
def r15_4 := nv 464 Tryz.f15
def r15_6 := nv 1864 Tryz.f15
def r15_7 := nv 7460 Tryz.f15
def r15_5 := nv 467 Tryz.f15
def r15_8 := nv 30 Tryz.f15
theorem ent15 : Ent T 15 28 (.seq (r15_0) (.seq (.seq (r15_1) (.cond (.tmp 13) (.seq (r15_2) (.ret)) (.skip))) (.seq (.seq (r15_3) (.block 0 (.loop b15_0))) (.seq (r15_8) (.ret))))) := entI T (F := Tryz.f15) (by kernel_rfl) (by kernel_rfl) (by kernel_rfl)
@[go_sem ↓] theorem run15 : RR r15_0 [oo 1 (.box 25 (.tmp 0)), oo 2 (.assign (.const (.bool false)))] ∧ RR r15_1 [oo 4 (oF 25 1 0), oo 5 (oL 22 4), oo 6 (oN 5 22), oo 7 (oC .gtr 3 6 9), oo 8 (oM 7), of 9 (oF 25 1 2) 8, of 10 (oL 23 9) 8, of 11 (o1 101 10 23) 8, of 12 (.unOp .not 4 (.tmp 11)) 8, oo 13 (.pick (.tmp 8) (.const (.bool true)) (.tmp 12))] ∧ RR r15_2 [oo 2 (.assign (.const (.bool false)))] ∧ RR r15_3 [oo 3 (oi 0)] ∧ RR r15_4 [oo 14 (oM 3), oo 15 (oF 25 1 0), oo 16 (oL 22 15), oo 17 (oN 16 22), oo 18 (oB .lss 3 14 17)] ∧ RR r15_6 [oo 21 (oF 25 1 0), oo 22 (oL 22 21), oo 23 (oM 3), oo 24 (oI 22 22 23), oo 25 (oL 28 24), oo 26 (oN 25 28), oo 27 (oC .gtr 3 26 9)] ∧ RR r15_7 [oo 2 (.assign (.const (.bool false)))] ∧ RR r15_5 [oo 19 (oM 3), oo 20 (oC .add 3 19 1), oo 3 (oG 20)] ∧ RI b15_0 (.seq (.seq (r15_4) (.cond (.tmp 18) (.skip) (.exit 0))) (.seq (.block 1 (.seq (r15_6) (.cond (.tmp 27) (.seq (r15_7) (.ret)) (.skip)))) (r15_5))) ∧ KeepS T 15 b15_0 [1, 3] ∧ RR r15_8 [oo 2 (.assign (.const (.bool true)))] ∧ FinF T 15 [.tmp 2] false := by refine ⟨runR T ?_, runR T ?_, runR T ?_, runR T ?_, runR T ?_, runR T ?_, runR T ?_, runR T ?_, runIc T ?_, keepS T ?_, runR T ?_, finI T (F := Tryz.f15) ?_ ?_ ?_⟩ <;> kernel_rfl
@[go_sem] theorem fr23 : Fct T 23 false none false ∧ Res1 T 23 29 := by refine ⟨⟨?_, ?_, ?_⟩, res1 T (F := Tryz.f23) ?_ ?_⟩ <;> kernel_rfl
@[go_sem] theorem fr18 : Fct T 18 false none false ∧ Res1 T 18 34 := by refine ⟨⟨?_, ?_, ?_⟩, res1 T (F := Tryz.f18) ?_ ?_⟩ <;> kernel_rfl
@[go_sem] theorem fr88 : Fct T 88 false none false ∧ Res1 T 88 25 := by refine ⟨⟨?_, ?_, ?_⟩, res1 T (F := Tryz.f88) ?_ ?_⟩ <;> kernel_rfl
def r18_0 := nv 2 Tryz.f18
def r18_1 := nv 6 Tryz.f18
def r18_2 := nv 14 Tryz.f18
def r18_3 := nv 60 Tryz.f18
def b18_0 := nv 244 Tryz.f18
def r18_4 := nv 488 Tryz.f18
def r18_5 := nv 7832 Tryz.f18
def r18_6 := nv 7833 Tryz.f18
def r18_7 := nv 1959 Tryz.f18
def r18_8 := nv 62 Tryz.f18
theorem ent18 : Ent T 18 28 (.seq (r18_0) (.seq (r18_1) (.seq (r18_2) (.seq (.seq (r18_3) (.block 0 (.loop b18_0))) (.seq (r18_8) (.ret)))))) := entI T (F := Tryz.f18) (by kernel_rfl) (by kernel_rfl) (by kernel_rfl)
@[go_sem ↓] theorem run18 : RR r18_0 [oo 1 (.box 25 (.tmp 0)), oo 2 (.alloc 34)] ∧ RR r18_1 [oo 6 (oL 25 1), oo 7 (o1 88 6 25), ow 25 1 7] ∧ RR r18_2 [oo 8 (oF 25 1 0), oo 9 (oL 22 8), oo 10 (oF 25 1 1), oo 11 (oL 3 10), oo 12 (.build 34 #[(0, .tmp 9), (1, .tmp 11)]), oo 3 (.alloc 34), ow 34 3 12] ∧ RR r18_3 [oo 13 (oF 25 1 2), oo 14 (oL 23 13), oo 15 (oN 14 23), oo 16 (.move (.const (.int .i64 0)))] ∧ RR r18_4 [oo 17 (oB .lss 3 16 15)] ∧ RR r18_5 [oo 18 (oI 23 14 16), oo 19 (oL 140 18), oo 5 (.alloc 140), ow 140 5 19] ∧ RR r18_6 [oo 20 (oF 34 3 2), oo 21 (oL 32 20), oo 22 (oL 140 5), oo 23 (oS 32 22), oo 24 (oA 21 23 32), oo 25 (oF 34 3 2), ow 32 25 24] ∧ RR r18_7 [oo 26 (oC .add 3 16 1), oo 16 (oM 26)] ∧ RI b18_0 (.seq (r18_4) (.seq (.cond (.tmp 17) (.skip) (.exit 0)) (.seq (.block 1 (.seq (r18_5) (r18_6))) (r18_7)))) ∧ KeepS T 18 b18_0 [2, 3, 14, 15, 16] ∧ RR r18_8 [oo 27 (oL 34 3), ow 34 2 27] ∧ FinF T 18 [.cell 2 34] false := by refine ⟨runR T ?_, runR T ?_, runR T ?_, runR T ?_, runR T ?_, runR T ?_, runR T ?_, runR T ?_, runIc T ?_, keepS T ?_, runR T ?_, finI T (F := Tryz.f18) ?_ ?_ ?_⟩ <;> kernel_rfl
@[go_sem] theorem fr20 : Fct T 20 false none false ∧ Res1 T 20 3 := by refine ⟨⟨?_, ?_, ?_⟩, res1 T (F := Tryz.f20) ?_ ?_⟩ <;> kernel_rfl
@[go_sem] theorem fr39 : Fct T 39 false none false ∧ Res1 T 39 3 := by refine ⟨⟨?_, ?_, ?_⟩, res1 T (F := Tryz.f39) ?_ ?_⟩ <;> kernel_rfl
@[go_sem] theorem fr108 : Fct T 108 false none false ∧ Res1 T 108 3 := by refine ⟨⟨?_, ?_, ?_⟩, res1 T (F := Tryz.f108) ?_ ?_⟩ <;> kernel_rfl
@[go_sem] theorem fr109 : Fct T 109 false none false ∧ Res1 T 109 3 := by refine ⟨⟨?_, ?_, ?_⟩, res1 T (F := Tryz.f109) ?_ ?_⟩ <;> kernel_rfl
@[go_sem] theorem fr110 : Fct T 110 false none false ∧ Res1 T 110 3 := by refine ⟨⟨?_, ?_, ?_⟩, res1 T (F := Tryz.f110) ?_ ?_⟩ <;> kernel_rfl
def r20_0 := nv 2 Tryz.f20
def r20_1 := nv 12 Tryz.f20
def r20_2 := nv 26 Tryz.f20
def r20_3 := nv 108 Tryz.f20
def r20_4 := nv 14 Tryz.f20
def r20_5 := nv 60 Tryz.f20
def b20_0 := nv 244 Tryz.f20
def r20_6 := nv 976 Tryz.f20
def r20_8 := nv 3912 Tryz.f20
def r20_9 := nv 15652 Tryz.f20
def r20_10 := nv 31306 Tryz.f20
def r20_11 := nv 125228 Tryz.f20
def r20_12 := nv 15654 Tryz.f20
def b20_1 := nv 62620 Tryz.f20
def r20_13 := nv 250480 Tryz.f20
def r20_15 := nv 1001928 Tryz.f20
def r20_16 := nv 2003858 Tryz.f20
def r20_17 := nv 8015436 Tryz.f20
def r20_14 := nv 250483 Tryz.f20
def r20_7 := nv 979 Tryz.f20
def r20_18 := nv 124 Tryz.f20
def r20_19 := nv 250 Tryz.f20
def r20_20 := nv 1004 Tryz.f20
def r20_21 := nv 252 Tryz.f20
def b20_2 := nv 1012 Tryz.f20
def r20_22 := nv 4048 Tryz.f20
def r20_24 := nv 16200 Tryz.f20
def r20_25 := nv 32402 Tryz.f20
def r20_26 := nv 129612 Tryz.f20
def r20_23 := nv 4051 Tryz.f20
def r20_27 := nv 254 Tryz.f20
theorem ent20 : Ent T 20 121 (.seq (r20_0) (.seq (.seq (r20_1) (.seq (r20_2) (.cond (.tmp 26) (.seq (r20_3) (.ret)) (.skip)))) (.seq (r20_4) (.seq (.seq (r20_5) (.block 0 (.loop b20_0))) (.seq (.seq (r20_18) (.seq (r20_19) (.cond (.tmp 86) (.seq (r20_20) (.ret)) (.skip)))) (.seq (.seq (r20_21) (.block 4 (.loop b20_2))) (.seq (r20_27) (.ret)))))))) := entI T (F := Tryz.f20) (by kernel_rfl) (by kernel_rfl) (by kernel_rfl)
@[go_sem ↓] theorem run20 : RR r20_0 [oo 1 (.box 25 (.tmp 0)), oo 2 (oi 0)] ∧ RD r20_1 20 [oo 13 (oF 25 1 0), oo 14 (oL 22 13), oo 15 (oN 14 22), oo 16 (oC .eql 3 15 0), oo 17 (.call ⟨.value (.func 39), #[.tmp 16, .const (.int .i64 12)], #[4, 3]⟩), oo 18 (oF 25 1 0), oo 19 (oL 22 18), oo 20 (oN 19 22), oo 21 (oC .gtr 3 20 8), oo 22 (.call ⟨.value (.func 39), #[.tmp 21, .const (.int .i64 5)], #[4, 3]⟩), oo 23 (.buildSlice 28 2 #[(0, .tmp 17), (1, .tmp 22)]), oo 24 (o1 108 23 28), oo 3 (oG 24)] [(0, 5), (1, 5), (2, 5), (3, 5), (4, 5), (0, 6), (1, 6), (2, 6), (3, 6), (4, 6), (0, 7), (1, 7), (2, 7), (3, 7), (4, 7), (0, 8), (1, 8), (2, 8), (3, 8), (4, 8)] ∧ RR r20_2 [oo 25 (oM 3), oo 26 (oC .neq 3 25 0)] ∧ RR r20_3 [oo 27 (oM 3), oo 2 (oG 27)] ∧ RR r20_4 [oo 28 (oF 25 1 0), oo 29 (oL 22 28), oo 30 (.indexAddr 22 (.tmp 29) (.const (.int .i64 0))), oo 31 (oL 28 30), oo 32 (oN 31 28), oo 4 (oG 32)] ∧ RR r20_5 [oo 5 (oi 0)] ∧ RR r20_6 [oo 33 (oM 5), oo 34 (oF 25 1 0), oo 35 (oL 22 34), oo 36 (oN 35 22), oo 37 (oB .lss 3 33 36)] ∧ RR r20_8 [oo 40 (oF 25 1 0), oo 41 (oL 22 40), oo 42 (oM 5), oo 43 (oI 22 41 42), oo 44 (oL 28 43), oo 6 (oG 44)] ∧ RR r20_9 [oo 45 (oM 6), oo 46 (oN 45 28), oo 47 (oC .eql 3 46 0), oo 48 (.call ⟨.value (.func 39), #[.tmp 47, .const (.int .i64 12)], #[4, 3]⟩), oo 49 (oM 6), oo 50 (oN 49 28), oo 51 (oC .gtr 3 50 8), oo 52 (.call ⟨.value (.func 39), #[.tmp 51, .const (.int .i64 5)], #[4, 3]⟩), oo 53 (oM 6), oo 54 (oN 53 28), oo 55 (oM 4), oo 56 (oB .neq 3 54 55), oo 57 (.call ⟨.value (.func 39), #[.tmp 56, .const (.int .i64 2)], #[4, 3]⟩), oo 58 (.buildSlice 28 3 #[(0, .tmp 48), (1, .tmp 52), (2, .tmp 57)]), oo 59 (o1 108 58 28), oo 7 (oG 59)] ∧ RR r20_10 [oo 60 (oM 7), oo 61 (oC .neq 3 60 0)] ∧ RR r20_11 [oo 62 (oM 7), oo 2 (oG 62)] ∧ RR r20_12 [oo 8 (oi 0)] ∧ RR r20_13 [oo 63 (oM 8), oo 64 (oM 6), oo 65 (oN 64 28), oo 66 (oB .lss 3 63 65)] ∧ RR r20_15 [oo 69 (oM 6), oo 70 (oM 8), oo 71 (oI 28 69 70), oo 72 (oL 3 71), oo 73 (o1 109 72 3), oo 9 (oG 73)] ∧ RR r20_16 [oo 74 (oM 9), oo 75 (oC .neq 3 74 0)] ∧ RR r20_17 [oo 76 (oM 9), oo 2 (oG 76)] ∧ RR r20_14 [oo 67 (oM 8), oo 68 (oC .add 3 67 1), oo 8 (oG 68)] ∧ RI b20_1 (.seq (.seq (r20_13) (.cond (.tmp 66) (.skip) (.exit 2))) (.seq (.block 3 (.seq (r20_15) (.seq (r20_16) (.cond (.tmp 75) (.seq (r20_17) (.ret)) (.skip))))) (r20_14))) ∧ KeepS T 20 b20_1 [1, 4, 5, 6, 8] ∧ RR r20_7 [oo 38 (oM 5), oo 39 (oC .add 3 38 1), oo 5 (oG 39)] ∧ RI b20_0 (.seq (.seq (r20_6) (.cond (.tmp 37) (.skip) (.exit 0))) (.seq (.block 1 (.seq (r20_8) (.seq (.seq (r20_9) (.seq (r20_10) (.cond (.tmp 61) (.seq (r20_11) (.ret)) (.skip)))) (.seq (r20_12) (.block 2 (.loop b20_1)))))) (r20_7))) ∧ KeepS T 20 b20_0 [1, 4, 5] ∧ RD r20_18 20 [oo 77 (oF 25 1 1), oo 78 (oL 3 77), oo 79 (o1 109 78 3), oo 80 (oF 25 1 2), oo 81 (oL 23 80), oo 82 (o1 110 81 23), oo 83 (.buildSlice 28 2 #[(0, .tmp 79), (1, .tmp 82)]), oo 84 (o1 108 83 28), oo 10 (oG 84)] [(0, 3), (1, 3), (2, 3), (0, 4), (1, 4), (2, 4)] ∧ RR r20_19 [oo 85 (oM 10), oo 86 (oC .neq 3 85 0)] ∧ RR r20_20 [oo 87 (oM 10), oo 2 (oG 87)] ∧ RR r20_21 [oo 11 (oi 0)] ∧ RR r20_22 [oo 88 (oM 11), oo 89 (oF 25 1 2), oo 90 (oL 23 89), oo 91 (oN 90 23), oo 92 (oB .lss 3 88 91)] ∧ RD r20_24 20 [oo 95 (oF 25 1 2), oo 96 (oL 23 95), oo 97 (oM 11), oo 98 (oI 23 96 97), oo 99 (oF 140 98 1), oo 100 (oL 3 99), oo 101 (oF 25 1 0), oo 102 (oL 22 101), oo 103 (oN 102 22), oo 104 (oB .geq 3 100 103), oo 105 (.call ⟨.value (.func 39), #[.tmp 104, .const (.int .i64 10)], #[4, 3]⟩), oo 106 (oF 25 1 2), oo 107 (oL 23 106), oo 108 (oM 11), oo 109 (oI 23 107 108), oo 110 (oF 140 109 2), oo 111 (oL 72 110), oo 112 (oN 111 72), oo 113 (oM 4), oo 114 (oB .neq 3 112 113), oo 115 (.call ⟨.value (.func 39), #[.tmp 114, .const (.int .i64 2)], #[4, 3]⟩), oo 116 (.buildSlice 28 2 #[(0, .tmp 105), (1, .tmp 115)]), oo 117 (o1 108 116 28), oo 12 (oG 117)] [(0, 2), (1, 2), (0, 6), (1, 6), (2, 6), (3, 6), (4, 6), (5, 6), (0, 7), (1, 7), (2, 7), (3, 7), (4, 7), (5, 7), (0, 8), (1, 8), (2, 8), (3, 8), (4, 8), (5, 8), (0, 11), (1, 11), (2, 11), (3, 11), (4, 11), (5, 11), (6, 11), (7, 11), (8, 11), (9, 11), (10, 11), (0, 12), (1, 12), (2, 12), (3, 12), (4, 12), (5, 12), (6, 12), (7, 12), (8, 12), (9, 12), (10, 12), (0, 13), (1, 13), (2, 13), (3, 13), (4, 13), (5, 13), (6, 13), (7, 13), (8, 13), (9, 13), (10, 13), (11, 13), (12, 13), (0, 14), (1, 14), (2, 14), (3, 14), (4, 14), (5, 14), (6, 14), (7, 14), (8, 14), (9, 14), (10, 14), (0, 15), (1, 15), (2, 15), (3, 15), (4, 15), (5, 15), (6, 15), (7, 15), (8, 15), (9, 15), (10, 15), (0, 16), (1, 16), (2, 16), (3, 16), (4, 16), (5, 16), (6, 16), (7, 16), (8, 16), (9, 16), (10, 16), (0, 17), (1, 17), (2, 17), (3, 17), (4, 17), (5, 17), (6, 17), (7, 17), (8, 17), (9, 17), (10, 17), (0, 18), (1, 18), (2, 18), (3, 18), (4, 18), (5, 18), (6, 18), (7, 18), (8, 18), (9, 18), (10, 18), (11, 18), (12, 18), (13, 18), (14, 18), (15, 18), (16, 18), (17, 18), (0, 19), (1, 19), (2, 19), (3, 19), (4, 19), (5, 19), (6, 19), (7, 19), (8, 19), (9, 19), (10, 19)] ∧ RR r20_25 [oo 118 (oM 12), oo 119 (oC .neq 3 118 0)] ∧ RR r20_26 [oo 120 (oM 12), oo 2 (oG 120)] ∧ RR r20_23 [oo 93 (oM 11), oo 94 (oC .add 3 93 1), oo 11 (oG 94)] ∧ RI b20_2 (.seq (.seq (r20_22) (.cond (.tmp 92) (.skip) (.exit 4))) (.seq (.block 5 (.seq (r20_24) (.seq (r20_25) (.cond (.tmp 119) (.seq (r20_26) (.ret)) (.skip))))) (r20_23))) ∧ KeepS T 20 b20_2 [1, 4, 11] ∧ RR r20_27 [oo 2 (oi 0)] ∧ FinF T 20 [.tmp 2] false := by refine ⟨runR T ?_, runD T (id := 1) ?_ ?_, runR T ?_, runR T ?_, runR T ?_, runR T ?_, runR T ?_, runR T ?_, runR T ?_, runR T ?_, runR T ?_, runR T ?_, runR T ?_, runR T ?_, runR T ?_, runR T ?_, runR T ?_, runIc T ?_, keepS T ?_, runR T ?_, runIc T ?_, keepS T ?_, runD T (id := 18) ?_ ?_, runR T ?_, runR T ?_, runR T ?_, runR T ?_, runD T (id := 24) ?_ ?_, runR T ?_, runR T ?_, runR T ?_, runIc T ?_, keepS T ?_, runR T ?_, finI T (F := Tryz.f20) ?_ ?_ ?_⟩ <;> kernel_rfl
@[go_sem] theorem fr112 : Fct T 112 false none false ∧ Res1 T 112 29 := by refine ⟨⟨?_, ?_, ?_⟩, res1 T (F := Tryz.f112) ?_ ?_⟩ <;> kernel_rfl
@[go_sem] theorem fr113 : Fct T 113 false none false ∧ Res1 T 113 29 := by refine ⟨⟨?_, ?_, ?_⟩, res1 T (F := Tryz.f113) ?_ ?_⟩ <;> kernel_rfl
@[go_sem] theorem fr114 : Fct T 114 false none false ∧ Res1 T 114 29 := by refine ⟨⟨?_, ?_, ?_⟩, res1 T (F := Tryz.f114) ?_ ?_⟩ <;> kernel_rfl
@[go_sem] theorem fr117 : Fct T 117 false none false ∧ Res1 T 117 29 := by refine ⟨⟨?_, ?_, ?_⟩, res1 T (F := Tryz.f117) ?_ ?_⟩ <;> kernel_rfl
@[go_sem] theorem fr118 : Fct T 118 false none false ∧ Res1 T 118 29 := by refine ⟨⟨?_, ?_, ?_⟩, res1 T (F := Tryz.f118) ?_ ?_⟩ <;> kernel_rfl
@[go_sem] theorem fr119 : Fct T 119 false none false ∧ Res1 T 119 187 := by refine ⟨⟨?_, ?_, ?_⟩, res1 T (F := Tryz.f119) ?_ ?_⟩ <;> kernel_rfl
@[go_sem] theorem fr120 : Fct T 120 false none false ∧ Res1 T 120 29 := by refine ⟨⟨?_, ?_, ?_⟩, res1 T (F := Tryz.f120) ?_ ?_⟩ <;> kernel_rfl
@[go_sem] theorem fr121 : Fct T 121 false none false ∧ Res1 T 121 187 := by refine ⟨⟨?_, ?_, ?_⟩, res1 T (F := Tryz.f121) ?_ ?_⟩ <;> kernel_rfl
def r23_0 := nv 2 Tryz.f23
def r23_1 := nv 12 Tryz.f23
def r23_2 := nv 26 Tryz.f23
def r23_3 := nv 108 Tryz.f23
def r23_4 := nv 14 Tryz.f23
def r23_5 := nv 30 Tryz.f23
def r23_6 := nv 62 Tryz.f23
theorem ent23 : Ent T 23 33 (.seq (r23_0) (.seq (.seq (r23_1) (.seq (r23_2) (.cond (.tmp 11) (.seq (r23_3) (.ret)) (.skip)))) (.seq (r23_4) (.seq (r23_5) (.seq (r23_6) (.ret)))))) := entI T (F := Tryz.f23) (by kernel_rfl) (by kernel_rfl) (by kernel_rfl)
@[go_sem ↓] theorem run23 : RR r23_0 [oo 1 (.box 34 (.tmp 0)), oo 2 (oi 0)] ∧ RR r23_1 [oo 6 (oF 34 1 0), oo 7 (oL 22 6), oo 8 (oN 7 22), oo 9 (.call ⟨.value (.func 112), #[.tmp 8, .const (.int .i64 8)], #[3, 3]⟩), oo 3 (oG 9)] ∧ RR r23_2 [oo 10 (oM 3), oo 11 (oC .neq 29 10 0)] ∧ RR r23_3 [oo 12 (oM 3), oo 2 (oG 12)] ∧ RR r23_4 [oo 13 (.makeFunc (.func 113) #[] #[.tmp 1]), oo 4 (oG 13)] ∧ RR r23_5 [oo 14 (.makeFunc (.func 118) #[] #[.tmp 1]), oo 5 (oG 14)] ∧ RD r23_6 23 [oo 15 (oF 34 1 0), oo 16 (oL 22 15), oo 17 (oM 4), oo 18 (o2 119 16 17 22 190), oo 19 (o1 114 18 187), oo 20 (oF 34 1 1), oo 21 (oL 3 20), oo 22 (o1 117 21 3), oo 23 (oF 34 1 2), oo 24 (oL 32 23), oo 25 (o1 120 24 32), oo 26 (oF 34 1 2), oo 27 (oL 32 26), oo 28 (oM 5), oo 29 (o2 121 27 28 32 191), oo 30 (o1 114 29 187), oo 31 (.buildSlice 187 4 #[(0, .tmp 19), (1, .tmp 22), (2, .tmp 25), (3, .tmp 30)]), oo 32 (o1 114 31 187), oo 2 (oG 32)] [(0, 2), (1, 2), (0, 5), (1, 5), (2, 5), (3, 5), (4, 5), (0, 6), (1, 6), (2, 6), (3, 6), (4, 6), (0, 8), (1, 8), (2, 8), (3, 8), (4, 8), (5, 8), (6, 8), (7, 8), (0, 9), (1, 9), (2, 9), (3, 9), (4, 9), (5, 9), (6, 9), (7, 9), (0, 11), (1, 11), (2, 11), (3, 11), (4, 11), (5, 11), (6, 11), (7, 11), (8, 11), (9, 11), (10, 11), (0, 12), (1, 12), (2, 12), (3, 12), (4, 12), (5, 12), (6, 12), (7, 12), (8, 12), (9, 12), (10, 12), (0, 13), (1, 13), (2, 13), (3, 13), (4, 13), (5, 13), (6, 13), (7, 13), (8, 13), (9, 13), (10, 13), (11, 13), (12, 13)] ∧ FinF T 23 [.tmp 2] false := by refine ⟨runR T ?_, runR T ?_, runR T ?_, runR T ?_, runR T ?_, runR T ?_, runD T (id := 6) ?_ ?_, finI T (F := Tryz.f23) ?_ ?_ ?_⟩ <;> kernel_rfl
def r39_0 := nv 2 Tryz.f39
def r39_1 := nv 12 Tryz.f39
def r39_2 := nv 52 Tryz.f39
def r39_3 := nv 14 Tryz.f39
theorem ent39 : Ent T 39 7 (.seq (r39_0) (.seq (.seq (r39_1) (.cond (.tmp 5) (.seq (r39_2) (.ret)) (.skip))) (.seq (r39_3) (.ret)))) := entI T (F := Tryz.f39) (by kernel_rfl) (by kernel_rfl) (by kernel_rfl)
@[go_sem ↓] theorem run39 : RR r39_0 [oo 4 (oi 0)] ∧ RR r39_1 [oo 5 (oM 0)] ∧ RR r39_2 [oo 6 (oM 1), oo 4 (oG 6)] ∧ RR r39_3 [oo 4 (oi 0)] ∧ FinF T 39 [.tmp 4] false := by refine ⟨runR T ?_, runR T ?_, runR T ?_, runR T ?_, finI T (F := Tryz.f39) ?_ ?_ ?_⟩ <;> kernel_rfl
@[go_sem] theorem fr172 : Fct T 172 false none false ∧ Res1 T 172 23 := by refine ⟨⟨?_, ?_, ?_⟩, res1 T (F := Tryz.f172) ?_ ?_⟩ <;> kernel_rfl
def r88_0 := nv 2 Tryz.f88
def r88_1 := nv 6 Tryz.f88
def r88_2 := nv 28 Tryz.f88
def b88_0 := nv 116 Tryz.f88
def r88_3 := nv 464 Tryz.f88
def r88_5 := nv 932 Tryz.f88
def r88_4 := nv 467 Tryz.f88
def r88_6 := nv 30 Tryz.f88
def r88_7 := nv 62 Tryz.f88
theorem ent88 : Ent T 88 32 (.seq (r88_0) (.seq (r88_1) (.seq (.seq (r88_2) (.block 0 (.loop b88_0))) (.seq (r88_6) (.seq (r88_7) (.ret)))))) := entI T (F := Tryz.f88) (by kernel_rfl) (by kernel_rfl) (by kernel_rfl)
@[go_sem ↓] theorem run88 : RR r88_0 [oo 1 (.box 25 (.tmp 0)), oo 2 (.alloc 25)] ∧ RR r88_1 [oo 5 (oF 25 1 1), oo 6 (oL 3 5), oo 7 (.build 25 #[(1, .tmp 6)]), oo 3 (.alloc 25), ow 25 3 7] ∧ RR r88_2 [oo 4 (oi 0)] ∧ RR r88_3 [oo 8 (oM 4), oo 9 (oF 25 1 0), oo 10 (oL 22 9), oo 11 (oN 10 22), oo 12 (oB .lss 3 8 11)] ∧ RD r88_5 88 [oo 15 (oF 25 3 0), oo 16 (oL 22 15), oo 17 (.buildSlice 28 0 #[]), oo 18 (oF 25 1 0), oo 19 (oL 22 18), oo 20 (oM 4), oo 21 (oI 22 19 20), oo 22 (oL 28 21), oo 23 (oA 17 22 28), oo 24 (oS 22 23), oo 25 (oA 16 24 22), oo 26 (oF 25 3 0), ow 22 26 25] [(0, 2), (1, 2), (0, 3), (1, 3), (2, 3), (0, 4), (1, 4), (2, 4), (0, 5), (1, 5), (2, 5), (3, 5), (4, 5), (0, 6), (1, 6), (2, 6), (0, 7), (1, 7), (2, 7), (0, 8), (1, 8), (0, 9), (1, 9)] ∧ RR r88_4 [oo 13 (oM 4), oo 14 (oC .add 3 13 1), oo 4 (oG 14)] ∧ RI b88_0 (.seq (.seq (r88_3) (.cond (.tmp 12) (.skip) (.exit 0))) (.seq (.block 1 (r88_5)) (r88_4))) ∧ KeepS T 88 b88_0 [1, 2, 3, 4] ∧ RR r88_6 [oo 27 (oF 25 1 2), oo 28 (oL 23 27), oo 29 (o1 172 28 23), oo 30 (oF 25 3 2), ow 23 30 29] ∧ RR r88_7 [oo 31 (oL 25 3), ow 25 2 31] ∧ FinF T 88 [.cell 2 25] false := by refine ⟨runR T ?_, runR T ?_, runR T ?_, runR T ?_, runD T (id := 5) ?_ ?_, runR T ?_, runIc T ?_, keepS T ?_, runR T ?_, runR T ?_, finI T (F := Tryz.f88) ?_ ?_ ?_⟩ <;> kernel_rfl
@[go_sem] theorem fr90 : Fct T 90 false none false ∧ Res1 T 90 3 := by refine ⟨⟨?_, ?_, ?_⟩, res1 T (F := Tryz.f90) ?_ ?_⟩ <;> kernel_rfl
def r90_0 := nv 2 Tryz.f90
def r90_1 := nv 6 Tryz.f90
theorem ent90 : Ent T 90 16 (.seq (r90_0) (.seq (r90_1) (.ret))) := entI T (F := Tryz.f90) (by kernel_rfl) (by kernel_rfl) (by kernel_rfl)
@[go_sem ↓] theorem run90 : RR r90_0 [oo 6 (oi 0)] ∧ RR r90_1 [oo 7 (oM 0), oo 8 (oM 1), oo 9 (oB .lss 3 7 8), oo 10 (oM 9), of 11 (oM 0) 10, of 12 (oM 2) 10, of 13 (oB .gtr 3 11 12) 10, oo 14 (.pick (.tmp 10) (.const (.bool true)) (.tmp 13)), oo 15 (.call ⟨.value (.func 39), #[.tmp 14, .const (.int .i64 3)], #[4, 3]⟩), oo 6 (oG 15)] ∧ FinF T 90 [.tmp 6] false := by refine ⟨runR T ?_, runR T ?_, finI T (F := Tryz.f90) ?_ ?_ ?_⟩ <;> kernel_rfl
def r101_0 := nv 2 Tryz.f101
def r101_1 := nv 12 Tryz.f101
def r101_2 := nv 52 Tryz.f101
def r101_3 := nv 28 Tryz.f101
def b101_0 := nv 116 Tryz.f101
def r101_4 := nv 464 Tryz.f101
def r101_6 := nv 1864 Tryz.f101
def r101_7 := nv 7460 Tryz.f101
def r101_5 := nv 467 Tryz.f101
def r101_8 := nv 30 Tryz.f101
theorem ent101 : Ent T 101 34 (.seq (r101_0) (.seq (.seq (r101_1) (.cond (.tmp 11) (.seq (r101_2) (.ret)) (.skip))) (.seq (.seq (r101_3) (.block 0 (.loop b101_0))) (.seq (r101_8) (.ret))))) := entI T (F := Tryz.f101) (by kernel_rfl) (by kernel_rfl) (by kernel_rfl)
@[go_sem ↓] theorem run101 : RR r101_0 [oo 2 (.assign (.const (.bool false)))] ∧ RR r101_1 [oo 4 (oM 0), oo 5 (oN 4 23), oo 6 (oC .gtr 3 5 6), oo 7 (oM 6), ot 8 (oM 0) 7, ot 9 (oN 8 23) 7, ot 10 (oC .neq 3 9 9) 7, oo 11 (.pick (.tmp 7) (.tmp 10) (.const (.bool false)))] ∧ RR r101_2 [oo 2 (.assign (.const (.bool false)))] ∧ RR r101_3 [oo 3 (oi 0)] ∧ RR r101_4 [oo 12 (oM 3), oo 13 (oM 0), oo 14 (oN 13 23), oo 15 (oB .lss 3 12 14)] ∧ RR r101_6 [oo 18 (oM 0), oo 19 (oM 3), oo 20 (oI 23 18 19), oo 21 (oF 140 20 0), oo 22 (oL 9 21), oo 23 (oN 22 9), oo 24 (oC .gtr 3 23 40), oo 25 (oM 24), of 26 (oM 0) 25, of 27 (oM 3) 25, of 28 (oI 23 26 27) 25, of 29 (oF 140 28 2) 25, of 30 (oL 72 29) 25, of 31 (oN 30 72) 25, of 32 (oC .gtr 3 31 9) 25, oo 33 (.pick (.tmp 25) (.const (.bool true)) (.tmp 32))] ∧ RR r101_7 [oo 2 (.assign (.const (.bool false)))] ∧ RR r101_5 [oo 16 (oM 3), oo 17 (oC .add 3 16 1), oo 3 (oG 17)] ∧ RI b101_0 (.seq (.seq (r101_4) (.cond (.tmp 15) (.skip) (.exit 0))) (.seq (.block 1 (.seq (r101_6) (.cond (.tmp 33) (.seq (r101_7) (.ret)) (.skip)))) (r101_5))) ∧ KeepS T 101 b101_0 [0, 3] ∧ RR r101_8 [oo 2 (.assign (.const (.bool true)))] ∧ FinF T 101 [.tmp 2] false := by refine ⟨runR T ?_, runR T ?_, runR T ?_, runR T ?_, runR T ?_, runR T ?_, runR T ?_, runR T ?_, runIc T ?_, keepS T ?_, runR T ?_, finI T (F := Tryz.f101) ?_ ?_ ?_⟩ <;> kernel_rfl
def r108_0 := nv 2 Tryz.f108
def r108_1 := nv 12 Tryz.f108
def b108_0 := nv 52 Tryz.f108
def r108_2 := nv 208 Tryz.f108
def r108_4 := nv 840 Tryz.f108
def r108_5 := nv 3364 Tryz.f108
def r108_3 := nv 211 Tryz.f108
def r108_6 := nv 14 Tryz.f108
theorem ent108 : Ent T 108 19 (.seq (r108_0) (.seq (.seq (r108_1) (.block 0 (.loop b108_0))) (.seq (r108_6) (.ret)))) := entI T (F := Tryz.f108) (by kernel_rfl) (by kernel_rfl) (by kernel_rfl)
@[go_sem ↓] theorem run108 : RR r108_0 [oo 2 (oi 0)] ∧ RR r108_1 [oo 3 (oi 0)] ∧ RR r108_2 [oo 4 (oM 3), oo 5 (oM 0), oo 6 (oN 5 28), oo 7 (oB .lss 3 4 6)] ∧ RR r108_4 [oo 10 (oM 0), oo 11 (oM 3), oo 12 (oI 28 10 11), oo 13 (oL 3 12), oo 14 (oC .neq 3 13 0)] ∧ RR r108_5 [oo 15 (oM 0), oo 16 (oM 3), oo 17 (oI 28 15 16), oo 18 (oL 3 17), oo 2 (oG 18)] ∧ RR r108_3 [oo 8 (oM 3), oo 9 (oC .add 3 8 1), oo 3 (oG 9)] ∧ RI b108_0 (.seq (.seq (r108_2) (.cond (.tmp 7) (.skip) (.exit 0))) (.seq (.block 1 (.seq (r108_4) (.cond (.tmp 14) (.seq (r108_5) (.ret)) (.skip)))) (r108_3))) ∧ KeepS T 108 b108_0 [0, 3] ∧ RR r108_6 [oo 2 (oi 0)] ∧ FinF T 108 [.tmp 2] false := by refine ⟨runR T ?_, runR T ?_, runR T ?_, runR T ?_, runR T ?_, runR T ?_, runIc T ?_, keepS T ?_, runR T ?_, finI T (F := Tryz.f108) ?_ ?_ ?_⟩ <;> kernel_rfl
def r109_0 := nv 2 Tryz.f109
def r109_1 := nv 6 Tryz.f109
theorem ent109 : Ent T 109 5 (.seq (r109_0) (.seq (r109_1) (.ret))) := entI T (F := Tryz.f109) (by kernel_rfl) (by kernel_rfl) (by kernel_rfl)
@[go_sem ↓] theorem run109 : RR r109_0 [oo 2 (oi 0)] ∧ RR r109_1 [oo 3 (oM 0), oo 4 (.call ⟨.value (.func 90), #[.tmp 3, .const (.int .i64 0), .const (.int .i64 1000000)], #[3, 3, 3]⟩), oo 2 (oG 4)] ∧ FinF T 109 [.tmp 2] false := by refine ⟨runR T ?_, runR T ?_, finI T (F := Tryz.f109) ?_ ?_ ?_⟩ <;> kernel_rfl
@[go_sem] theorem fr149 : Fct T 149 false none false ∧ Res1 T 149 3 := by refine ⟨⟨?_, ?_, ?_⟩, res1 T (F := Tryz.f149) ?_ ?_⟩ <;> kernel_rfl
@[go_sem] theorem fr188 : Fct T 188 false none false ∧ Res1 T 188 3 := by refine ⟨⟨?_, ?_, ?_⟩, res1 T (F := Tryz.f188) ?_ ?_⟩ <;> kernel_rfl
@[go_sem] theorem fr189 : Fct T 189 false none false ∧ Res1 T 189 3 := by refine ⟨⟨?_, ?_, ?_⟩, res1 T (F := Tryz.f189) ?_ ?_⟩ <;> kernel_rfl
def r110_0 := nv 2 Tryz.f110
def r110_1 := nv 12 Tryz.f110
def r110_2 := nv 52 Tryz.f110
def r110_3 := nv 28 Tryz.f110
def b110_0 := nv 116 Tryz.f110
def r110_4 := nv 464 Tryz.f110
def r110_6 := nv 1864 Tryz.f110
def r110_7 := nv 3730 Tryz.f110
def r110_8 := nv 7462 Tryz.f110
def r110_9 := nv 29852 Tryz.f110
def r110_5 := nv 467 Tryz.f110
def r110_10 := nv 30 Tryz.f110
theorem ent110 : Ent T 110 51 (.seq (r110_0) (.seq (.seq (r110_1) (.cond (.tmp 8) (.seq (r110_2) (.ret)) (.skip))) (.seq (.seq (r110_3) (.block 0 (.loop b110_0))) (.seq (r110_10) (.ret))))) := entI T (F := Tryz.f110) (by kernel_rfl) (by kernel_rfl) (by kernel_rfl)
@[go_sem ↓] theorem run110 : RR r110_0 [oo 2 (oi 0)] ∧ RR r110_1 [oo 6 (oM 0), oo 7 (oN 6 23), oo 8 (oC .gtr 3 7 8)] ∧ RR r110_2 [oo 2 (oi 5)] ∧ RR r110_3 [oo 3 (oi 0)] ∧ RR r110_4 [oo 9 (oM 3), oo 10 (oM 0), oo 11 (oN 10 23), oo 12 (oB .lss 3 9 11)] ∧ RR r110_6 [oo 15 (oM 0), oo 16 (oM 3), oo 17 (oI 23 15 16), oo 18 (oL 140 17), oo 4 (.alloc 140), ow 140 4 18] ∧ RD r110_7 110 [oo 19 (oF 140 4 0), oo 20 (oL 9 19), oo 21 (o1 188 20 9), oo 22 (oM 0), oo 23 (oM 3), oo 24 (.slice 23 (.tmp 22) none (some (.tmp 23)) none), oo 25 (oF 140 4 0), oo 26 (oL 9 25), oo 27 (o2 189 24 26 23 9), oo 28 (oC .geq 3 27 0), oo 29 (.call ⟨.value (.func 39), #[.tmp 28, .const (.int .i64 9)], #[4, 3]⟩), oo 30 (oF 140 4 1), oo 31 (oL 3 30), oo 32 (.call ⟨.value (.func 90), #[.tmp 31, .const (.int .i64 0), .const (.int .i64 7)], #[3, 3, 3]⟩), oo 33 (oF 140 4 2), oo 34 (oL 72 33), oo 35 (oN 34 72), oo 36 (oC .eql 3 35 0), oo 37 (.call ⟨.value (.func 39), #[.tmp 36, .const (.int .i64 12)], #[4, 3]⟩), oo 38 (oF 140 4 2), oo 39 (oL 72 38), oo 40 (oN 39 72), oo 41 (oC .gtr 3 40 8), oo 42 (.call ⟨.value (.func 39), #[.tmp 41, .const (.int .i64 5)], #[4, 3]⟩), oo 43 (oF 140 4 2), oo 44 (oL 72 43), oo 45 (o1 149 44 72), oo 46 (.buildSlice 28 6 #[(0, .tmp 21), (1, .tmp 29), (2, .tmp 32), (3, .tmp 37), (4, .tmp 42), (5, .tmp 45)]), oo 47 (o1 108 46 28), oo 5 (oG 47)] [(0, 3), (1, 3), (2, 3), (0, 4), (1, 4), (2, 4), (3, 4), (0, 5), (1, 5), (2, 5), (0, 6), (1, 6), (2, 6), (3, 6), (4, 6), (5, 6), (0, 7), (1, 7), (2, 7), (3, 7), (4, 7), (5, 7), (0, 11), (1, 11), (2, 11), (3, 11), (4, 11), (5, 11), (6, 11), (7, 11), (8, 11), (9, 11), (10, 11), (0, 12), (1, 12), (2, 12), (3, 12), (4, 12), (5, 12), (6, 12), (7, 12), (8, 12), (9, 12), (10, 12), (0, 14), (1, 14), (2, 14), (3, 14), (4, 14), (5, 14), (6, 14), (7, 14), (8, 14), (9, 14), (10, 14), (11, 14), (12, 14), (13, 14), (0, 15), (1, 15), (2, 15), (3, 15), (4, 15), (5, 15), (6, 15), (7, 15), (8, 15), (9, 15), (10, 15), (11, 15), (12, 15), (13, 15), (0, 16), (1, 16), (2, 16), (3, 16), (4, 16), (5, 16), (6, 16), (7, 16), (8, 16), (9, 16), (10, 16), (11, 16), (12, 16), (13, 16), (0, 17), (1, 17), (2, 17), (3, 17), (4, 17), (5, 17), (6, 17), (7, 17), (8, 17), (9, 17), (10, 17), (11, 17), (12, 17), (13, 17), (0, 19), (1, 19), (2, 19), (3, 19), (4, 19), (5, 19), (6, 19), (7, 19), (8, 19), (9, 19), (10, 19), (11, 19), (12, 19), (13, 19), (14, 19), (15, 19), (16, 19), (17, 19), (18, 19), (0, 20), (1, 20), (2, 20), (3, 20), (4, 20), (5, 20), (6, 20), (7, 20), (8, 20), (9, 20), (10, 20), (11, 20), (12, 20), (13, 20), (14, 20), (15, 20), (16, 20), (17, 20), (18, 20), (0, 21), (1, 21), (2, 21), (3, 21), (4, 21), (5, 21), (6, 21), (7, 21), (8, 21), (9, 21), (10, 21), (11, 21), (12, 21), (13, 21), (14, 21), (15, 21), (16, 21), (17, 21), (18, 21), (0, 22), (1, 22), (2, 22), (3, 22), (4, 22), (5, 22), (6, 22), (7, 22), (8, 22), (9, 22), (10, 22), (11, 22), (12, 22), (13, 22), (14, 22), (15, 22), (16, 22), (17, 22), (18, 22), (0, 24), (1, 24), (2, 24), (3, 24), (4, 24), (5, 24), (6, 24), (7, 24), (8, 24), (9, 24), (10, 24), (11, 24), (12, 24), (13, 24), (14, 24), (15, 24), (16, 24), (17, 24), (18, 24), (19, 24), (20, 24), (21, 24), (22, 24), (23, 24), (0, 25), (1, 25), (2, 25), (3, 25), (4, 25), (5, 25), (6, 25), (7, 25), (8, 25), (9, 25), (10, 25), (11, 25), (12, 25), (13, 25), (14, 25), (15, 25), (16, 25), (17, 25), (18, 25), (19, 25), (20, 25), (21, 25), (22, 25), (23, 25)] ∧ RR r110_8 [oo 48 (oM 5), oo 49 (oC .neq 3 48 0)] ∧ RR r110_9 [oo 50 (oM 5), oo 2 (oG 50)] ∧ RR r110_5 [oo 13 (oM 3), oo 14 (oC .add 3 13 1), oo 3 (oG 14)] ∧ RI b110_0 (.seq (.seq (r110_4) (.cond (.tmp 12) (.skip) (.exit 0))) (.seq (.block 1 (.seq (r110_6) (.seq (r110_7) (.seq (r110_8) (.cond (.tmp 49) (.seq (r110_9) (.ret)) (.skip)))))) (r110_5))) ∧ KeepS T 110 b110_0 [0, 3] ∧ RR r110_10 [oo 2 (oi 0)] ∧ FinF T 110 [.tmp 2] false := by refine ⟨runR T ?_, runR T ?_, runR T ?_, runR T ?_, runR T ?_, runR T ?_, runD T (id := 7) ?_ ?_, runR T ?_, runR T ?_, runR T ?_, runIc T ?_, keepS T ?_, runR T ?_, finI T (F := Tryz.f110) ?_ ?_ ?_⟩ <;> kernel_rfl
@[go_sem] theorem fr115 : Fct T 115 false none false ∧ Res1 T 115 29 := by refine ⟨⟨?_, ?_, ?_⟩, res1 T (F := Tryz.f115) ?_ ?_⟩ <;> kernel_rfl
def r112_0 := nv 2 Tryz.f112
def r112_1 := nv 6 Tryz.f112
theorem ent112 : Ent T 112 14 (.seq (r112_0) (.seq (r112_1) (.ret))) := entI T (F := Tryz.f112) (by kernel_rfl) (by kernel_rfl) (by kernel_rfl)
@[go_sem ↓] theorem run112 : RR r112_0 [oo 4 (oi 0)] ∧ RR r112_1 [oo 5 (oM 0), oo 6 (oC .eql 3 5 0), oo 7 (.call ⟨.value (.func 115), #[.tmp 6, .const (.int .i64 12)], #[4, 29]⟩), oo 8 (oM 0), oo 9 (oM 1), oo 10 (oB .gtr 3 8 9), oo 11 (.call ⟨.value (.func 115), #[.tmp 10, .const (.int .i64 5)], #[4, 29]⟩), oo 12 (.buildSlice 187 2 #[(0, .tmp 7), (1, .tmp 11)]), oo 13 (o1 114 12 187), oo 4 (oG 13)] ∧ FinF T 112 [.tmp 4] false := by refine ⟨runR T ?_, runR T ?_, finI T (F := Tryz.f112) ?_ ?_ ?_⟩ <;> kernel_rfl
@[go_sem] theorem fr116 : Fct T 116 false none false ∧ Res1 T 116 187 := by refine ⟨⟨?_, ?_, ?_⟩, res1 T (F := Tryz.f116) ?_ ?_⟩ <;> kernel_rfl
def r113_0 := nv 2 Tryz.f113
def r113_1 := nv 6 Tryz.f113
theorem ent113 : Ent T 113 21 (.seq (r113_0) (.seq (r113_1) (.ret))) := entI T (F := Tryz.f113) (by kernel_rfl) (by kernel_rfl) (by kernel_rfl)
@[go_sem ↓] theorem run113 : RR r113_0 [oo 3 (oi 0)] ∧ RD r113_1 113 [oo 4 (oM 0), oo 5 (oN 4 28), oo 6 (.call ⟨.value (.func 112), #[.tmp 5, .const (.int .i64 8)], #[3, 3]⟩), oo 7 (oM 0), oo 8 (oN 7 28), oo 9 (oF 34 1 0), oo 10 (oL 22 9), oo 11 (.indexAddr 22 (.tmp 10) (.const (.int .i64 0))), oo 12 (oL 28 11), oo 13 (oN 12 28), oo 14 (oB .neq 3 8 13), oo 15 (.call ⟨.value (.func 115), #[.tmp 14, .const (.int .i64 2)], #[4, 29]⟩), oo 16 (oM 0), oo 17 (.call ⟨.value (.func 116), #[.tmp 16, .func 117], #[28, 189]⟩), oo 18 (o1 114 17 187), oo 19 (.buildSlice 187 3 #[(0, .tmp 6), (1, .tmp 15), (2, .tmp 18)]), oo 20 (o1 114 19 187), oo 3 (oG 20)] [(0, 3), (1, 3), (2, 3), (0, 4), (1, 4), (2, 4), (0, 5), (1, 5), (2, 5), (3, 5), (4, 5), (0, 6), (1, 6), (2, 6), (3, 6), (4, 6), (0, 7), (1, 7), (2, 7), (3, 7), (4, 7), (0, 8), (1, 8), (2, 8), (3, 8), (4, 8), (0, 9), (1, 9), (2, 9), (3, 9), (4, 9), (0, 10), (1, 10), (2, 10), (0, 12), (1, 12), (2, 12), (3, 12), (4, 12), (5, 12), (6, 12), (7, 12), (8, 12), (9, 12), (10, 12), (11, 12)] ∧ FinF T 113 [.tmp 3] false := by refine ⟨runR T ?_, runD T (id := 1) ?_ ?_, finI T (F := Tryz.f113) ?_ ?_ ?_⟩ <;> kernel_rfl
def r114_0 := nv 2 Tryz.f114
def r114_1 := nv 12 Tryz.f114
def b114_0 := nv 52 Tryz.f114
def r114_2 := nv 104 Tryz.f114
def r114_3 := nv 1688 Tryz.f114
def r114_4 := nv 3378 Tryz.f114
def r114_5 := nv 13516 Tryz.f114
def r114_6 := nv 423 Tryz.f114
def r114_7 := nv 14 Tryz.f114
theorem ent114 : Ent T 114 15 (.seq (r114_0) (.seq (.seq (r114_1) (.block 0 (.loop b114_0))) (.seq (r114_7) (.ret)))) := entI T (F := Tryz.f114) (by kernel_rfl) (by kernel_rfl) (by kernel_rfl)
@[go_sem ↓] theorem run114 : RR r114_0 [oo 2 (oi 0)] ∧ RR r114_1 [oo 5 (oM 0), oo 6 (oN 5 187), oo 7 (.move (.const (.int .i64 0)))] ∧ RR r114_2 [oo 8 (oB .lss 3 7 6)] ∧ RR r114_3 [oo 9 (oI 187 5 7), oo 10 (oL 29 9), oo 4 (oG 10)] ∧ RR r114_4 [oo 11 (oM 4), oo 12 (oC .neq 29 11 0)] ∧ RR r114_5 [oo 13 (oM 4), oo 2 (oG 13)] ∧ RR r114_6 [oo 14 (oC .add 3 7 1), oo 7 (oM 14)] ∧ RI b114_0 (.seq (r114_2) (.seq (.cond (.tmp 8) (.skip) (.exit 0)) (.seq (.block 1 (.seq (r114_3) (.seq (r114_4) (.cond (.tmp 12) (.seq (r114_5) (.ret)) (.skip))))) (r114_6)))) ∧ KeepS T 114 b114_0 [5, 6, 7] ∧ RR r114_7 [oo 2 (oi 0)] ∧ FinF T 114 [.tmp 2] false := by refine ⟨runR T ?_, runR T ?_, runR T ?_, runR T ?_, runR T ?_, runR T ?_, runR T ?_, runIc T ?_, keepS T ?_, runR T ?_, finI T (F := Tryz.f114) ?_ ?_ ?_⟩ <;> kernel_rfl
def r115_0 := nv 2 Tryz.f115
def r115_1 := nv 12 Tryz.f115
def r115_2 := nv 52 Tryz.f115
def r115_3 := nv 14 Tryz.f115
theorem ent115 : Ent T 115 7 (.seq (r115_0) (.seq (.seq (r115_1) (.cond (.tmp 5) (.seq (r115_2) (.ret)) (.skip))) (.seq (r115_3) (.ret)))) := entI T (F := Tryz.f115) (by kernel_rfl) (by kernel_rfl) (by kernel_rfl)
@[go_sem ↓] theorem run115 : RR r115_0 [oo 4 (oi 0)] ∧ RR r115_1 [oo 5 (oM 0)] ∧ RR r115_2 [oo 6 (oM 1), oo 4 (oG 6)] ∧ RR r115_3 [oo 4 (oi 0)] ∧ FinF T 115 [.tmp 4] false := by refine ⟨runR T ?_, runR T ?_, runR T ?_, runR T ?_, finI T (F := Tryz.f115) ?_ ?_ ?_⟩ <;> kernel_rfl
def r116_0 := nv 2 Tryz.f116
def r116_1 := nv 6 Tryz.f116
def r116_2 := nv 28 Tryz.f116
def b116_0 := nv 116 Tryz.f116
def r116_3 := nv 232 Tryz.f116
def r116_4 := nv 3736 Tryz.f116
def r116_5 := nv 3737 Tryz.f116
def r116_6 := nv 935 Tryz.f116
def r116_7 := nv 30 Tryz.f116
theorem ent116 : Ent T 116 22 (.seq (r116_0) (.seq (r116_1) (.seq (.seq (r116_2) (.block 0 (.loop b116_0))) (.seq (r116_7) (.ret))))) := entI T (F := Tryz.f116) (by kernel_rfl) (by kernel_rfl) (by kernel_rfl)
@[go_sem ↓] theorem run116 : RR r116_0 [oo 4 on] ∧ RR r116_1 [oo 5 on] ∧ RR r116_2 [oo 8 (oM 0), oo 9 (oN 8 28), oo 10 (.move (.const (.int .i64 0)))] ∧ RR r116_3 [oo 11 (oB .lss 3 10 9)] ∧ RR r116_4 [oo 12 (oI 28 8 10), oo 13 (oL 3 12), oo 7 (oG 13)] ∧ RR r116_5 [oo 14 (oM 5), oo 15 (oM 1), oo 16 (oM 7), oo 17 (.call ⟨.value (.tmp 15), #[.tmp 16], #[3]⟩), oo 18 (oS 187 17), oo 19 (oA 14 18 187), oo 5 (oG 19)] ∧ RR r116_6 [oo 20 (oC .add 3 10 1), oo 10 (oM 20)] ∧ RI b116_0 (.seq (r116_3) (.seq (.cond (.tmp 11) (.skip) (.exit 0)) (.seq (.block 1 (.seq (r116_4) (r116_5))) (r116_6)))) ∧ KeepS T 116 b116_0 [1, 5, 8, 9, 10] ∧ RR r116_7 [oo 21 (oM 5), oo 4 (oG 21)] ∧ FinF T 116 [.tmp 4] false := by refine ⟨runR T ?_, runR T ?_, runR T ?_, runR T ?_, runR T ?_, runR T ?_, runR T ?_, runIc T ?_, keepS T ?_, runR T ?_, finI T (F := Tryz.f116) ?_ ?_ ?_⟩ <;> kernel_rfl
@[go_sem] theorem fr137 : Fct T 137 false none false ∧ Res1 T 137 29 := by refine ⟨⟨?_, ?_, ?_⟩, res1 T (F := Tryz.f137) ?_ ?_⟩ <;> kernel_rfl
def r117_0 := nv 2 Tryz.f117
def r117_1 := nv 6 Tryz.f117
theorem ent117 : Ent T 117 5 (.seq (r117_0) (.seq (r117_1) (.ret))) := entI T (F := Tryz.f117) (by kernel_rfl) (by kernel_rfl) (by kernel_rfl)
@[go_sem ↓] theorem run117 : RR r117_0 [oo 2 (oi 0)] ∧ RR r117_1 [oo 3 (oM 0), oo 4 (.call ⟨.value (.func 137), #[.tmp 3, .const (.int .i64 0), .const (.int .i64 1000000)], #[3, 3, 3]⟩), oo 2 (oG 4)] ∧ FinF T 117 [.tmp 2] false := by refine ⟨runR T ?_, runR T ?_, finI T (F := Tryz.f117) ?_ ?_ ?_⟩ <;> kernel_rfl
def r118_0 := nv 2 Tryz.f118
def r118_1 := nv 6 Tryz.f118
theorem ent118 : Ent T 118 23 (.seq (r118_0) (.seq (r118_1) (.ret))) := entI T (F := Tryz.f118) (by kernel_rfl) (by kernel_rfl) (by kernel_rfl)
@[go_sem ↓] theorem run118 : RR r118_0 [oo 2 (.box 180 (.tmp 0)), oo 3 (oi 0)] ∧ RD r118_1 118 [oo 4 (oF 180 2 1), oo 5 (oL 3 4), oo 6 (oF 34 1 0), oo 7 (oL 22 6), oo 8 (oN 7 22), oo 9 (oB .geq 3 5 8), oo 10 (.call ⟨.value (.func 115), #[.tmp 9, .const (.int .i64 10)], #[4, 29]⟩), oo 11 (oF 180 2 2), oo 12 (oL 72 11), oo 13 (oN 12 72), oo 14 (oF 34 1 0), oo 15 (oL 22 14), oo 16 (.indexAddr 22 (.tmp 15) (.const (.int .i64 0))), oo 17 (oL 28 16), oo 18 (oN 17 28), oo 19 (oB .neq 3 13 18), oo 20 (.call ⟨.value (.func 115), #[.tmp 19, .const (.int .i64 2)], #[4, 29]⟩), oo 21 (.buildSlice 187 2 #[(0, .tmp 10), (1, .tmp 20)]), oo 22 (o1 114 21 187), oo 3 (oG 22)] [(0, 2), (1, 2), (0, 3), (1, 3), (0, 4), (1, 4), (0, 7), (1, 7), (2, 7), (3, 7), (4, 7), (5, 7), (6, 7), (0, 8), (1, 8), (2, 8), (3, 8), (4, 8), (5, 8), (6, 8), (0, 9), (1, 9), (2, 9), (3, 9), (4, 9), (5, 9), (6, 9), (0, 10), (1, 10), (2, 10), (3, 10), (4, 10), (5, 10), (6, 10), (7, 10), (8, 10), (9, 10), (0, 11), (1, 11), (2, 11), (3, 11), (4, 11), (5, 11), (6, 11), (7, 11), (8, 11), (9, 11), (0, 12), (1, 12), (2, 12), (3, 12), (4, 12), (5, 12), (6, 12), (7, 12), (8, 12), (9, 12), (0, 13), (1, 13), (2, 13), (3, 13), (4, 13), (5, 13), (6, 13), (7, 13), (8, 13), (9, 13), (0, 14), (1, 14), (2, 14), (3, 14), (4, 14), (5, 14), (6, 14), (7, 14), (8, 14), (9, 14), (0, 15), (1, 15), (2, 15), (3, 15), (4, 15), (5, 15), (6, 15)] ∧ FinF T 118 [.tmp 3] false := by refine ⟨runR T ?_, runD T (id := 1) ?_ ?_, finI T (F := Tryz.f118) ?_ ?_ ?_⟩ <;> kernel_rfl
def r119_0 := nv 2 Tryz.f119
def r119_1 := nv 6 Tryz.f119
def r119_2 := nv 28 Tryz.f119
def b119_0 := nv 116 Tryz.f119
def r119_3 := nv 232 Tryz.f119
def r119_4 := nv 3736 Tryz.f119
def r119_5 := nv 3737 Tryz.f119
def r119_6 := nv 935 Tryz.f119
def r119_7 := nv 30 Tryz.f119
theorem ent119 : Ent T 119 22 (.seq (r119_0) (.seq (r119_1) (.seq (.seq (r119_2) (.block 0 (.loop b119_0))) (.seq (r119_7) (.ret))))) := entI T (F := Tryz.f119) (by kernel_rfl) (by kernel_rfl) (by kernel_rfl)
@[go_sem ↓] theorem run119 : RR r119_0 [oo 4 on] ∧ RR r119_1 [oo 5 on] ∧ RR r119_2 [oo 8 (oM 0), oo 9 (oN 8 22), oo 10 (.move (.const (.int .i64 0)))] ∧ RR r119_3 [oo 11 (oB .lss 3 10 9)] ∧ RR r119_4 [oo 12 (oI 22 8 10), oo 13 (oL 28 12), oo 7 (oG 13)] ∧ RR r119_5 [oo 14 (oM 5), oo 15 (oM 1), oo 16 (oM 7), oo 17 (.call ⟨.value (.tmp 15), #[.tmp 16], #[28]⟩), oo 18 (oS 187 17), oo 19 (oA 14 18 187), oo 5 (oG 19)] ∧ RR r119_6 [oo 20 (oC .add 3 10 1), oo 10 (oM 20)] ∧ RI b119_0 (.seq (r119_3) (.seq (.cond (.tmp 11) (.skip) (.exit 0)) (.seq (.block 1 (.seq (r119_4) (r119_5))) (r119_6)))) ∧ KeepS T 119 b119_0 [1, 5, 8, 9, 10] ∧ RR r119_7 [oo 21 (oM 5), oo 4 (oG 21)] ∧ FinF T 119 [.tmp 4] false := by refine ⟨runR T ?_, runR T ?_, runR T ?_, runR T ?_, runR T ?_, runR T ?_, runR T ?_, runIc T ?_, keepS T ?_, runR T ?_, finI T (F := Tryz.f119) ?_ ?_ ?_⟩ <;> kernel_rfl
@[go_sem] theorem fr190 : Fct T 190 false none false ∧ Res1 T 190 4 := by refine ⟨⟨?_, ?_, ?_⟩, res1 T (F := Tryz.f190) ?_ ?_⟩ <;> kernel_rfl
@[go_sem] theorem fr191 : Fct T 191 false none false ∧ Res1 T 191 29 := by refine ⟨⟨?_, ?_, ?_⟩, res1 T (F := Tryz.f191) ?_ ?_⟩ <;> kernel_rfl
def r120_0 := nv 2 Tryz.f120
def r120_1 := nv 12 Tryz.f120
def r120_2 := nv 52 Tryz.f120
def r120_3 := nv 14 Tryz.f120
def r120_4 := nv 60 Tryz.f120
def b120_0 := nv 244 Tryz.f120
def r120_5 := nv 488 Tryz.f120
def r120_6 := nv 7832 Tryz.f120
def r120_7 := nv 31332 Tryz.f120
def r120_8 := nv 62666 Tryz.f120
def r120_9 := nv 250668 Tryz.f120
def r120_10 := nv 15667 Tryz.f120
def r120_11 := nv 1959 Tryz.f120
def r120_12 := nv 62 Tryz.f120
theorem ent120 : Ent T 120 38 (.seq (r120_0) (.seq (.seq (r120_1) (.cond (.tmp 9) (.seq (r120_2) (.ret)) (.skip))) (.seq (r120_3) (.seq (.seq (r120_4) (.block 0 (.loop b120_0))) (.seq (r120_12) (.ret)))))) := entI T (F := Tryz.f120) (by kernel_rfl) (by kernel_rfl) (by kernel_rfl)
@[go_sem ↓] theorem run120 : RR r120_0 [oo 2 (oi 0)] ∧ RR r120_1 [oo 7 (oM 0), oo 8 (oN 7 32), oo 9 (oC .gtr 3 8 8)] ∧ RR r120_2 [oo 2 (oi 5)] ∧ RR r120_3 [oo 10 (.makeMap 276 none), oo 3 (oG 10)] ∧ RR r120_4 [oo 11 (oM 0), oo 12 (oN 11 32), oo 13 (.move (.const (.int .i64 0)))] ∧ RR r120_5 [oo 14 (oB .lss 3 13 12)] ∧ RR r120_6 [oo 15 (oI 32 11 13), oo 16 (oL 180 15), oo 5 (.alloc 180), ow 180 5 16] ∧ RD r120_7 120 [oo 17 (oF 180 5 0), oo 18 (oL 9 17), oo 19 (o1 190 18 9), oo 20 (.unOp .not 4 (.tmp 19)), oo 21 (.call ⟨.value (.func 115), #[.tmp 20, .const (.int .i64 8)], #[4, 29]⟩), oo 22 (oM 3), oo 23 (oF 180 5 0), oo 24 (oL 9 23), oo 25 (.lookup 276 (.tmp 22) (.tmp 24) false), oo 26 (.call ⟨.value (.func 115), #[.tmp 25, .const (.int .i64 9)], #[4, 29]⟩), oo 27 (oL 180 5), oo 28 (o1 191 27 180), oo 29 (.buildSlice 187 3 #[(0, .tmp 21), (1, .tmp 26), (2, .tmp 28)]), oo 30 (o1 114 29 187), oo 6 (oG 30)] [(0, 5), (1, 5), (2, 5), (3, 5), (4, 5), (0, 6), (1, 6), (2, 6), (3, 6), (4, 6), (5, 6), (0, 7), (1, 7), (2, 7), (3, 7), (4, 7), (5, 7), (0, 8), (1, 8), (2, 8), (3, 8), (4, 8), (0, 10), (1, 10), (2, 10), (3, 10), (4, 10), (5, 10), (6, 10), (7, 10), (8, 10), (9, 10)] ∧ RR r120_8 [oo 31 (oM 6), oo 32 (oC .neq 29 31 0)] ∧ RR r120_9 [oo 33 (oM 6), oo 2 (oG 33)] ∧ RR r120_10 [oo 34 (oM 3), oo 35 (oF 180 5 0), oo 36 (oL 9 35), ⟨none, .mapUpdate 276 (.tmp 34) (.tmp 36) (.const (.bool true)), none⟩] ∧ RR r120_11 [oo 37 (oC .add 3 13 1), oo 13 (oM 37)] ∧ RI b120_0 (.seq (r120_5) (.seq (.cond (.tmp 14) (.skip) (.exit 0)) (.seq (.block 1 (.seq (r120_6) (.seq (.seq (r120_7) (.seq (r120_8) (.cond (.tmp 32) (.seq (r120_9) (.ret)) (.skip)))) (r120_10)))) (r120_11)))) ∧ KeepS T 120 b120_0 [3, 11, 12, 13] ∧ RR r120_12 [oo 2 (oi 0)] ∧ FinF T 120 [.tmp 2] false := by refine ⟨runR T ?_, runR T ?_, runR T ?_, runR T ?_, runR T ?_, runR T ?_, runR T ?_, runD T (id := 7) ?_ ?_, runR T ?_, runR T ?_, runR T ?_, runR T ?_, runIc T ?_, keepS T ?_, runR T ?_, finI T (F := Tryz.f120) ?_ ?_ ?_⟩ <;> kernel_rfl
def r121_0 := nv 2 Tryz.f121
def r121_1 := nv 6 Tryz.f121
def r121_2 := nv 28 Tryz.f121
def b121_0 := nv 116 Tryz.f121
def r121_3 := nv 232 Tryz.f121
def r121_4 := nv 3736 Tryz.f121
def r121_5 := nv 3737 Tryz.f121
def r121_6 := nv 935 Tryz.f121
def r121_7 := nv 30 Tryz.f121
theorem ent121 : Ent T 121 22 (.seq (r121_0) (.seq (r121_1) (.seq (.seq (r121_2) (.block 0 (.loop b121_0))) (.seq (r121_7) (.ret))))) := entI T (F := Tryz.f121) (by kernel_rfl) (by kernel_rfl) (by kernel_rfl)
@[go_sem ↓] theorem run121 : RR r121_0 [oo 4 on] ∧ RR r121_1 [oo 5 on] ∧ RR r121_2 [oo 8 (oM 0), oo 9 (oN 8 32), oo 10 (.move (.const (.int .i64 0)))] ∧ RR r121_3 [oo 11 (oB .lss 3 10 9)] ∧ RR r121_4 [oo 12 (oI 32 8 10), oo 13 (oL 180 12), oo 7 (.alloc 180), ow 180 7 13] ∧ RR r121_5 [oo 14 (oM 5), oo 15 (oM 1), oo 16 (oL 180 7), oo 17 (.call ⟨.value (.tmp 15), #[.tmp 16], #[180]⟩), oo 18 (oS 187 17), oo 19 (oA 14 18 187), oo 5 (oG 19)] ∧ RR r121_6 [oo 20 (oC .add 3 10 1), oo 10 (oM 20)] ∧ RI b121_0 (.seq (r121_3) (.seq (.cond (.tmp 11) (.skip) (.exit 0)) (.seq (.block 1 (.seq (r121_4) (r121_5))) (r121_6)))) ∧ KeepS T 121 b121_0 [1, 5, 8, 9, 10] ∧ RR r121_7 [oo 21 (oM 5), oo 4 (oG 21)] ∧ FinF T 121 [.tmp 4] false := by refine ⟨runR T ?_, runR T ?_, runR T ?_, runR T ?_, runR T ?_, runR T ?_, runR T ?_, runIc T ?_, keepS T ?_, runR T ?_, finI T (F := Tryz.f121) ?_ ?_ ?_⟩ <;> kernel_rfl
def r137_0 := nv 2 Tryz.f137
def r137_1 := nv 6 Tryz.f137
theorem ent137 : Ent T 137 16 (.seq (r137_0) (.seq (r137_1) (.ret))) := entI T (F := Tryz.f137) (by kernel_rfl) (by kernel_rfl) (by kernel_rfl)
@[go_sem ↓] theorem run137 : RR r137_0 [oo 6 (oi 0)] ∧ RR r137_1 [oo 7 (oM 0), oo 8 (oM 1), oo 9 (oB .lss 3 7 8), oo 10 (oM 9), of 11 (oM 0) 10, of 12 (oM 2) 10, of 13 (oB .gtr 3 11 12) 10, oo 14 (.pick (.tmp 10) (.const (.bool true)) (.tmp 13)), oo 15 (.call ⟨.value (.func 115), #[.tmp 14, .const (.int .i64 3)], #[4, 29]⟩), oo 6 (oG 15)] ∧ FinF T 137 [.tmp 6] false := by refine ⟨runR T ?_, runR T ?_, finI T (F := Tryz.f137) ?_ ?_ ?_⟩ <;> kernel_rfl
@[go_sem] theorem fr145 : Fct T 145 false none false ∧ Res1 T 145 187 := by refine ⟨⟨?_, ?_, ?_⟩, res1 T (F := Tryz.f145) ?_ ?_⟩ <;> kernel_rfl
def r145_0 := nv 2 Tryz.f145
def r145_1 := nv 6 Tryz.f145
def r145_2 := nv 28 Tryz.f145
def b145_0 := nv 116 Tryz.f145
def r145_3 := nv 232 Tryz.f145
def r145_4 := nv 3736 Tryz.f145
def r145_5 := nv 3737 Tryz.f145
def r145_6 := nv 935 Tryz.f145
def r145_7 := nv 30 Tryz.f145
theorem ent145 : Ent T 145 22 (.seq (r145_0) (.seq (r145_1) (.seq (.seq (r145_2) (.block 0 (.loop b145_0))) (.seq (r145_7) (.ret))))) := entI T (F := Tryz.f145) (by kernel_rfl) (by kernel_rfl) (by kernel_rfl)
@[go_sem ↓] theorem run145 : RR r145_0 [oo 4 on] ∧ RR r145_1 [oo 5 on] ∧ RR r145_2 [oo 8 (oM 0), oo 9 (oN 8 72), oo 10 (.move (.const (.int .i64 0)))] ∧ RR r145_3 [oo 11 (oB .lss 3 10 9)] ∧ RR r145_4 [oo 12 (oI 72 8 10), oo 13 (oL 142 12), oo 7 (.alloc 142), ow 142 7 13] ∧ RR r145_5 [oo 14 (oM 5), oo 15 (oM 1), oo 16 (oL 142 7), oo 17 (.call ⟨.value (.tmp 15), #[.tmp 16], #[142]⟩), oo 18 (oS 187 17), oo 19 (oA 14 18 187), oo 5 (oG 19)] ∧ RR r145_6 [oo 20 (oC .add 3 10 1), oo 10 (oM 20)] ∧ RI b145_0 (.seq (r145_3) (.seq (.cond (.tmp 11) (.skip) (.exit 0)) (.seq (.block 1 (.seq (r145_4) (r145_5))) (r145_6)))) ∧ KeepS T 145 b145_0 [1, 5, 8, 9, 10] ∧ RR r145_7 [oo 21 (oM 5), oo 4 (oG 21)] ∧ FinF T 145 [.tmp 4] false := by refine ⟨runR T ?_, runR T ?_, runR T ?_, runR T ?_, runR T ?_, runR T ?_, runR T ?_, runIc T ?_, keepS T ?_, runR T ?_, finI T (F := Tryz.f145) ?_ ?_ ?_⟩ <;> kernel_rfl
@[go_sem] theorem fr146 : Fct T 146 false none false ∧ Res1 T 146 29 := by refine ⟨⟨?_, ?_, ?_⟩, res1 T (F := Tryz.f146) ?_ ?_⟩ <;> kernel_rfl
def r146_0 := nv 2 Tryz.f146
def r146_1 := nv 6 Tryz.f146
theorem ent146 : Ent T 146 17 (.seq (r146_0) (.seq (r146_1) (.ret))) := entI T (F := Tryz.f146) (by kernel_rfl) (by kernel_rfl) (by kernel_rfl)
@[go_sem ↓] theorem run146 : RR r146_0 [oo 1 (.box 142 (.tmp 0)), oo 2 (oi 0)] ∧ RD r146_1 146 [oo 3 (oF 142 1 0), oo 4 (oL 3 3), oo 5 (o1 117 4 3), oo 6 (oF 142 1 1), oo 7 (oL 3 6), oo 8 (o1 117 7 3), oo 9 (oF 142 1 0), oo 10 (oL 3 9), oo 11 (oF 142 1 1), oo 12 (oL 3 11), oo 13 (oB .gtr 3 10 12), oo 14 (.call ⟨.value (.func 115), #[.tmp 13, .const (.int .i64 11)], #[4, 29]⟩), oo 15 (.buildSlice 187 3 #[(0, .tmp 5), (1, .tmp 8), (2, .tmp 14)]), oo 16 (o1 114 15 187), oo 2 (oG 16)] [(0, 3), (1, 3), (2, 3), (0, 4), (1, 4), (2, 4), (0, 6), (1, 6), (2, 6), (3, 6), (4, 6), (5, 6), (0, 7), (1, 7), (2, 7), (3, 7), (4, 7), (5, 7), (0, 8), (1, 8), (2, 8), (3, 8), (4, 8), (5, 8), (6, 8), (7, 8), (0, 9), (1, 9), (2, 9), (3, 9), (4, 9), (5, 9), (6, 9), (7, 9), (0, 10), (1, 10), (2, 10), (3, 10), (4, 10), (5, 10)] ∧ FinF T 146 [.tmp 2] false := by refine ⟨runR T ?_, runD T (id := 1) ?_ ?_, finI T (F := Tryz.f146) ?_ ?_ ?_⟩ <;> kernel_rfl
@[go_sem] theorem fr212 : Fct T 212 false none false ∧ Res1 T 212 3 := by refine ⟨⟨?_, ?_, ?_⟩, res1 T (F := Tryz.f212) ?_ ?_⟩ <;> kernel_rfl
def r149_0 := nv 2 Tryz.f149
def r149_1 := nv 12 Tryz.f149
def b149_0 := nv 52 Tryz.f149
def r149_2 := nv 208 Tryz.f149
def r149_4 := nv 840 Tryz.f149
def r149_5 := nv 1682 Tryz.f149
def r149_6 := nv 6732 Tryz.f149
def r149_3 := nv 211 Tryz.f149
def r149_7 := nv 14 Tryz.f149
theorem ent149 : Ent T 149 19 (.seq (r149_0) (.seq (.seq (r149_1) (.block 0 (.loop b149_0))) (.seq (r149_7) (.ret)))) := entI T (F := Tryz.f149) (by kernel_rfl) (by kernel_rfl) (by kernel_rfl)
@[go_sem ↓] theorem run149 : RR r149_0 [oo 2 (oi 0)] ∧ RR r149_1 [oo 3 (oi 0)] ∧ RR r149_2 [oo 5 (oM 3), oo 6 (oM 0), oo 7 (oN 6 72), oo 8 (oB .lss 3 5 7)] ∧ RR r149_4 [oo 11 (oM 0), oo 12 (oM 3), oo 13 (oI 72 11 12), oo 14 (oL 142 13), oo 15 (.call ⟨.value (.func 212), #[.tmp 14, .const (.int .i64 0), .const (.int .i64 1000000)], #[142, 3, 3]⟩), oo 4 (oG 15)] ∧ RR r149_5 [oo 16 (oM 4), oo 17 (oC .neq 3 16 0)] ∧ RR r149_6 [oo 18 (oM 4), oo 2 (oG 18)] ∧ RR r149_3 [oo 9 (oM 3), oo 10 (oC .add 3 9 1), oo 3 (oG 10)] ∧ RI b149_0 (.seq (.seq (r149_2) (.cond (.tmp 8) (.skip) (.exit 0))) (.seq (.block 1 (.seq (r149_4) (.seq (r149_5) (.cond (.tmp 17) (.seq (r149_6) (.ret)) (.skip))))) (r149_3))) ∧ KeepS T 149 b149_0 [0, 3] ∧ RR r149_7 [oo 2 (oi 0)] ∧ FinF T 149 [.tmp 2] false := by refine ⟨runR T ?_, runR T ?_, runR T ?_, runR T ?_, runR T ?_, runR T ?_, runR T ?_, runIc T ?_, keepS T ?_, runR T ?_, finI T (F := Tryz.f149) ?_ ?_ ?_⟩ <;> kernel_rfl
def r172_0 := nv 2 Tryz.f172
def r172_1 := nv 6 Tryz.f172
def r172_2 := nv 28 Tryz.f172
def b172_0 := nv 116 Tryz.f172
def r172_3 := nv 464 Tryz.f172
def r172_5 := nv 1864 Tryz.f172
def r172_6 := nv 3730 Tryz.f172
def r172_7 := nv 3731 Tryz.f172
def r172_4 := nv 467 Tryz.f172
def r172_8 := nv 30 Tryz.f172
theorem ent172 : Ent T 172 26 (.seq (r172_0) (.seq (r172_1) (.seq (.seq (r172_2) (.block 0 (.loop b172_0))) (.seq (r172_8) (.ret))))) := entI T (F := Tryz.f172) (by kernel_rfl) (by kernel_rfl) (by kernel_rfl)
@[go_sem ↓] theorem run172 : RR r172_0 [oo 2 on] ∧ RR r172_1 [oo 3 on] ∧ RR r172_2 [oo 4 (oi 0)] ∧ RR r172_3 [oo 6 (oM 4), oo 7 (oM 0), oo 8 (oN 7 23), oo 9 (oB .lss 3 6 8)] ∧ RR r172_5 [oo 12 (oM 0), oo 13 (oM 4), oo 14 (oI 23 12 13), oo 15 (oL 140 14), oo 5 (.alloc 140), ow 140 5 15] ∧ RR r172_6 [oo 16 (.buildSlice 72 0 #[]), oo 17 (oF 140 5 2), oo 18 (oL 72 17), oo 19 (oA 16 18 72), oo 20 (oF 140 5 2), ow 72 20 19] ∧ RR r172_7 [oo 21 (oM 3), oo 22 (oL 140 5), oo 23 (oS 23 22), oo 24 (oA 21 23 23), oo 3 (oG 24)] ∧ RR r172_4 [oo 10 (oM 4), oo 11 (oC .add 3 10 1), oo 4 (oG 11)] ∧ RI b172_0 (.seq (.seq (r172_3) (.cond (.tmp 9) (.skip) (.exit 0))) (.seq (.block 1 (.seq (r172_5) (.seq (r172_6) (r172_7)))) (r172_4))) ∧ KeepS T 172 b172_0 [0, 3, 4] ∧ RR r172_8 [oo 25 (oM 3), oo 2 (oG 25)] ∧ FinF T 172 [.tmp 2] false := by refine ⟨runR T ?_, runR T ?_, runR T ?_, runR T ?_, runR T ?_, runR T ?_, runR T ?_, runR T ?_, runIc T ?_, keepS T ?_, runR T ?_, finI T (F := Tryz.f172) ?_ ?_ ?_⟩ <;> kernel_rfl
@[go_sem] theorem fr230 : Fct T 230 false none false ∧ Res1 T 230 4 := by refine ⟨⟨?_, ?_, ?_⟩, res1 T (F := Tryz.f230) ?_ ?_⟩ <;> kernel_rfl
def r188_0 := nv 2 Tryz.f188
def r188_1 := nv 6 Tryz.f188
theorem ent188 : Ent T 188 7 (.seq (r188_0) (.seq (r188_1) (.ret))) := entI T (F := Tryz.f188) (by kernel_rfl) (by kernel_rfl) (by kernel_rfl)
@[go_sem ↓] theorem run188 : RR r188_0 [oo 2 (oi 0)] ∧ RR r188_1 [oo 3 (oM 0), oo 4 (o1 230 3 9), oo 5 (.unOp .not 4 (.tmp 4)), oo 6 (.call ⟨.value (.func 39), #[.tmp 5, .const (.int .i64 8)], #[4, 3]⟩), oo 2 (oG 6)] ∧ FinF T 188 [.tmp 2] false := by refine ⟨runR T ?_, runR T ?_, finI T (F := Tryz.f188) ?_ ?_ ?_⟩ <;> kernel_rfl
def r189_0 := nv 2 Tryz.f189
def r189_1 := nv 12 Tryz.f189
def b189_0 := nv 52 Tryz.f189
def r189_2 := nv 208 Tryz.f189
def r189_4 := nv 840 Tryz.f189
def r189_5 := nv 3364 Tryz.f189
def r189_3 := nv 211 Tryz.f189
def r189_6 := nv 14 Tryz.f189
theorem ent189 : Ent T 189 20 (.seq (r189_0) (.seq (.seq (r189_1) (.block 0 (.loop b189_0))) (.seq (r189_6) (.ret)))) := entI T (F := Tryz.f189) (by kernel_rfl) (by kernel_rfl) (by kernel_rfl)
@[go_sem ↓] theorem run189 : RR r189_0 [oo 4 (oi 0)] ∧ RR r189_1 [oo 5 (oi 0)] ∧ RR r189_2 [oo 6 (oM 5), oo 7 (oM 0), oo 8 (oN 7 23), oo 9 (oB .lss 3 6 8)] ∧ RR r189_4 [oo 12 (oM 0), oo 13 (oM 5), oo 14 (oI 23 12 13), oo 15 (oF 140 14 0), oo 16 (oL 9 15), oo 17 (oM 1), oo 18 (oB .eql 9 16 17)] ∧ RR r189_5 [oo 19 (oM 5), oo 4 (oG 19)] ∧ RR r189_3 [oo 10 (oM 5), oo 11 (oC .add 3 10 1), oo 5 (oG 11)] ∧ RI b189_0 (.seq (.seq (r189_2) (.cond (.tmp 9) (.skip) (.exit 0))) (.seq (.block 1 (.seq (r189_4) (.cond (.tmp 18) (.seq (r189_5) (.ret)) (.skip)))) (r189_3))) ∧ KeepS T 189 b189_0 [0, 1, 5] ∧ RR r189_6 [oo 4 (oi (-1))] ∧ FinF T 189 [.tmp 4] false := by refine ⟨runR T ?_, runR T ?_, runR T ?_, runR T ?_, runR T ?_, runR T ?_, runIc T ?_, keepS T ?_, runR T ?_, finI T (F := Tryz.f189) ?_ ?_ ?_⟩ <;> kernel_rfl
def r190_0 := nv 2 Tryz.f190
def r190_1 := nv 12 Tryz.f190
def b190_0 := nv 52 Tryz.f190
def r190_2 := nv 104 Tryz.f190
def r190_3 := nv 844 Tryz.f190
def r190_4 := nv 1690 Tryz.f190
def r190_5 := nv 3382 Tryz.f190
def r190_6 := nv 13532 Tryz.f190
def r190_7 := nv 14 Tryz.f190
theorem ent190 : Ent T 190 51 (.seq (r190_0) (.seq (.seq (r190_1) (.block 0 (.loop b190_0))) (.seq (r190_7) (.ret)))) := entI T (F := Tryz.f190) (by kernel_rfl) (by kernel_rfl) (by kernel_rfl)
@[go_sem ↓] theorem run190 : RR r190_0 [oo 2 (.assign (.const (.bool false)))] ∧ RR r190_1 [oo 6 (oM 0), oo 7 (.range 9 (.tmp 6))] ∧ RR r190_2 [oo 8 (.next (.tmp 7) true), oo 9 (oX 8 0)] ∧ RR r190_3 [oo 10 (oX 8 1), oo 11 (oX 8 2), oo 3 (oG 10), oo 4 (oG 11)] ∧ RR r190_4 [oo 12 (oM 4), oo 13 (.binOp .geq 21 (.tmp 12) (.const (.int .i32 97)) 21), oo 14 (oM 13), ot 15 (oM 4) 14, ot 16 (.binOp .leq 21 (.tmp 15) (.const (.int .i32 122)) 21) 14, oo 17 (.pick (.tmp 14) (.tmp 16) (.const (.bool false))), oo 18 (oM 17), of 19 (oM 4) 18, of 20 (.binOp .geq 21 (.tmp 19) (.const (.int .i32 65)) 21) 18, of 21 (oM 20) 18, ot 22 (oM 4) 21, ot 23 (.binOp .leq 21 (.tmp 22) (.const (.int .i32 90)) 21) 21, of 24 (.pick (.tmp 21) (.tmp 23) (.const (.bool false))) 18, oo 25 (.pick (.tmp 18) (.const (.bool true)) (.tmp 24)), oo 5 (oG 25)] ∧ RR r190_5 [oo 26 (oM 5), oo 27 (.unOp .not 4 (.tmp 26)), oo 28 (oM 27), ot 29 (oM 3) 28, ot 30 (oC .eql 3 29 0) 28, ot 31 (oM 30) 28, of 32 (oM 4) 31, of 33 (.binOp .neq 21 (.tmp 32) (.const (.int .i32 95)) 21) 31, of 34 (oM 33) 31, ot 35 (oM 4) 34, ot 36 (.binOp .lss 21 (.tmp 35) (.const (.int .i32 48)) 21) 34, ot 37 (oM 36) 34, of 38 (oM 4) 37, of 39 (.binOp .gtr 21 (.tmp 38) (.const (.int .i32 57)) 21) 37, ot 40 (.pick (.tmp 37) (.const (.bool true)) (.tmp 39)) 34, of 41 (.pick (.tmp 34) (.tmp 40) (.const (.bool false))) 31, ot 42 (.pick (.tmp 31) (.const (.bool true)) (.tmp 41)) 28, oo 43 (.pick (.tmp 28) (.tmp 42) (.const (.bool false)))] ∧ RR r190_6 [oo 2 (.assign (.const (.bool false)))] ∧ RI b190_0 (.seq (r190_2) (.seq (.cond (.tmp 9) (.skip) (.exit 0)) (.block 1 (.seq (r190_3) (.seq (r190_4) (.seq (r190_5) (.cond (.tmp 43) (.seq (r190_6) (.ret)) (.skip)))))))) ∧ KeepS T 190 b190_0 [0, 7] ∧ RR r190_7 [oo 44 (oM 0), oo 45 (.binOp .neq 9 (.tmp 44) (.const (.string ⟨#[]⟩)) 9), oo 46 (oM 45), ot 47 (oM 0) 46, ot 48 (oN 47 9) 46, ot 49 (oC .leq 3 48 24) 46, oo 50 (.pick (.tmp 46) (.tmp 49) (.const (.bool false))), oo 2 (oG 50)] ∧ FinF T 190 [.tmp 2] false := by refine ⟨runR T ?_, runR T ?_, runR T ?_, runR T ?_, runR T ?_, runR T ?_, runR T ?_, runIc T ?_, keepS T ?_, runR T ?_, finI T (F := Tryz.f190) ?_ ?_ ?_⟩ <;> kernel_rfl
def r191_0 := nv 2 Tryz.f191
def r191_1 := nv 6 Tryz.f191
theorem ent191 : Ent T 191 16 (.seq (r191_0) (.seq (r191_1) (.ret))) := entI T (F := Tryz.f191) (by kernel_rfl) (by kernel_rfl) (by kernel_rfl)
@[go_sem ↓] theorem run191 : RR r191_0 [oo 1 (.box 180 (.tmp 0)), oo 2 (oi 0)] ∧ RD r191_1 191 [oo 3 (oF 180 1 1), oo 4 (oL 3 3), oo 5 (.call ⟨.value (.func 137), #[.tmp 4, .const (.int .i64 0), .const (.int .i64 7)], #[3, 3, 3]⟩), oo 6 (oF 180 1 2), oo 7 (oL 72 6), oo 8 (oN 7 72), oo 9 (.call ⟨.value (.func 112), #[.tmp 8, .const (.int .i64 8)], #[3, 3]⟩), oo 10 (oF 180 1 2), oo 11 (oL 72 10), oo 12 (.call ⟨.value (.func 145), #[.tmp 11, .func 146], #[72, 219]⟩), oo 13 (o1 114 12 187), oo 14 (.buildSlice 187 3 #[(0, .tmp 5), (1, .tmp 9), (2, .tmp 13)]), oo 15 (o1 114 14 187), oo 2 (oG 15)] [(0, 3), (1, 3), (2, 3), (0, 4), (1, 4), (2, 4), (0, 5), (1, 5), (2, 5), (0, 7), (1, 7), (2, 7), (3, 7), (4, 7), (5, 7), (6, 7), (0, 8), (1, 8), (2, 8), (3, 8), (4, 8), (5, 8), (6, 8)] ∧ FinF T 191 [.tmp 2] false := by refine ⟨runR T ?_, runD T (id := 1) ?_ ?_, finI T (F := Tryz.f191) ?_ ?_ ?_⟩ <;> kernel_rfl
def r212_0 := nv 2 Tryz.f212
def r212_1 := nv 6 Tryz.f212
theorem ent212 : Ent T 212 25 (.seq (r212_0) (.seq (r212_1) (.ret))) := entI T (F := Tryz.f212) (by kernel_rfl) (by kernel_rfl) (by kernel_rfl)
@[go_sem ↓] theorem run212 : RR r212_0 [oo 3 (.box 142 (.tmp 0)), oo 6 (oi 0)] ∧ RD r212_1 212 [oo 7 (oF 142 3 0), oo 8 (oL 3 7), oo 9 (oM 1), oo 10 (oM 2), oo 11 (.call ⟨.value (.func 90), #[.tmp 8, .tmp 9, .tmp 10], #[3, 3, 3]⟩), oo 12 (oF 142 3 1), oo 13 (oL 3 12), oo 14 (oM 1), oo 15 (oM 2), oo 16 (.call ⟨.value (.func 90), #[.tmp 13, .tmp 14, .tmp 15], #[3, 3, 3]⟩), oo 17 (oF 142 3 0), oo 18 (oL 3 17), oo 19 (oF 142 3 1), oo 20 (oL 3 19), oo 21 (oB .gtr 3 18 20), oo 22 (.call ⟨.value (.func 39), #[.tmp 21, .const (.int .i64 11)], #[4, 3]⟩), oo 23 (.buildSlice 28 3 #[(0, .tmp 11), (1, .tmp 16), (2, .tmp 22)]), oo 24 (o1 108 23 28), oo 6 (oG 24)] [(0, 2), (1, 2), (0, 3), (1, 3), (2, 3), (0, 5), (1, 5), (2, 5), (3, 5), (4, 5), (0, 6), (1, 6), (2, 6), (3, 6), (4, 6), (0, 7), (1, 7), (2, 7), (3, 7), (4, 7), (5, 7), (6, 7), (0, 8), (1, 8), (2, 8), (3, 8), (4, 8), (5, 8), (6, 8), (7, 8), (0, 10), (1, 10), (2, 10), (3, 10), (4, 10), (5, 10), (6, 10), (7, 10), (8, 10), (9, 10), (0, 11), (1, 11), (2, 11), (3, 11), (4, 11), (5, 11), (6, 11), (7, 11), (8, 11), (9, 11), (0, 12), (1, 12), (2, 12), (3, 12), (4, 12), (5, 12), (6, 12), (7, 12), (8, 12), (9, 12), (10, 12), (11, 12), (0, 13), (1, 13), (2, 13), (3, 13), (4, 13), (5, 13), (6, 13), (7, 13), (8, 13), (9, 13), (10, 13), (11, 13), (0, 14), (1, 14), (2, 14), (3, 14), (4, 14), (5, 14), (6, 14), (7, 14), (8, 14), (9, 14)] ∧ FinF T 212 [.tmp 6] false := by refine ⟨runR T ?_, runD T (id := 1) ?_ ?_, finI T (F := Tryz.f212) ?_ ?_ ?_⟩ <;> kernel_rfl
def r230_0 := nv 2 Tryz.f230
def r230_1 := nv 12 Tryz.f230
def r230_2 := nv 52 Tryz.f230
def r230_3 := nv 28 Tryz.f230
def b230_0 := nv 116 Tryz.f230
def r230_4 := nv 464 Tryz.f230
def r230_6 := nv 1864 Tryz.f230
def r230_7 := nv 3730 Tryz.f230
def r230_8 := nv 7462 Tryz.f230
def r230_9 := nv 29852 Tryz.f230
def r230_5 := nv 467 Tryz.f230
def r230_10 := nv 30 Tryz.f230
theorem ent230 : Ent T 230 68 (.seq (r230_0) (.seq (.seq (r230_1) (.cond (.tmp 13) (.seq (r230_2) (.ret)) (.skip))) (.seq (.seq (r230_3) (.block 0 (.loop b230_0))) (.seq (r230_10) (.ret))))) := entI T (F := Tryz.f230) (by kernel_rfl) (by kernel_rfl) (by kernel_rfl)
@[go_sem ↓] theorem run230 : RR r230_0 [oo 2 (.assign (.const (.bool false)))] ∧ RR r230_1 [oo 6 (oM 0), oo 7 (oN 6 9), oo 8 (oC .eql 3 7 0), oo 9 (oM 8), of 10 (oM 0) 9, of 11 (oN 10 9) 9, of 12 (oC .gtr 3 11 24) 9, oo 13 (.pick (.tmp 9) (.const (.bool true)) (.tmp 12))] ∧ RR r230_2 [oo 2 (.assign (.const (.bool false)))] ∧ RR r230_3 [oo 3 (oi 0)] ∧ RR r230_4 [oo 14 (oM 3), oo 15 (oM 0), oo 16 (oN 15 9), oo 17 (oB .lss 3 14 16)] ∧ RR r230_6 [oo 20 (oM 0), oo 21 (oM 3), oo 22 (.index 9 (.tmp 20) (.tmp 21)), oo 23 (.binOp .geq 5 (.tmp 22) (.const (.int .u8 65)) 5), oo 24 (oM 23), ot 25 (oM 0) 24, ot 26 (oM 3) 24, ot 27 (.index 9 (.tmp 25) (.tmp 26)) 24, ot 28 (.binOp .leq 5 (.tmp 27) (.const (.int .u8 90)) 5) 24, oo 29 (.pick (.tmp 24) (.tmp 28) (.const (.bool false))), oo 30 (oM 29), of 31 (oM 0) 30, of 32 (oM 3) 30, of 33 (.index 9 (.tmp 31) (.tmp 32)) 30, of 34 (.binOp .geq 5 (.tmp 33) (.const (.int .u8 97)) 5) 30, of 35 (oM 34) 30, ot 36 (oM 0) 35, ot 37 (oM 3) 35, ot 38 (.index 9 (.tmp 36) (.tmp 37)) 35, ot 39 (.binOp .leq 5 (.tmp 38) (.const (.int .u8 122)) 5) 35, of 40 (.pick (.tmp 35) (.tmp 39) (.const (.bool false))) 30, oo 41 (.pick (.tmp 30) (.const (.bool true)) (.tmp 40)), oo 4 (oG 41)] ∧ RR r230_7 [oo 42 (oM 0), oo 43 (oM 3), oo 44 (.index 9 (.tmp 42) (.tmp 43)), oo 45 (.binOp .geq 5 (.tmp 44) (.const (.int .u8 48)) 5), oo 46 (oM 45), ot 47 (oM 0) 46, ot 48 (oM 3) 46, ot 49 (.index 9 (.tmp 47) (.tmp 48)) 46, ot 50 (.binOp .leq 5 (.tmp 49) (.const (.int .u8 57)) 5) 46, oo 51 (.pick (.tmp 46) (.tmp 50) (.const (.bool false))), oo 52 (oM 51), of 53 (oM 0) 52, of 54 (oM 3) 52, of 55 (.index 9 (.tmp 53) (.tmp 54)) 52, of 56 (.binOp .eql 5 (.tmp 55) (.const (.int .u8 95)) 5) 52, oo 57 (.pick (.tmp 52) (.const (.bool true)) (.tmp 56)), oo 5 (oG 57)] ∧ RR r230_8 [oo 58 (oM 4), oo 59 (.unOp .not 4 (.tmp 58)), oo 60 (oM 59), ot 61 (oM 3) 60, ot 62 (oC .eql 3 61 0) 60, ot 63 (oM 62) 60, of 64 (oM 5) 63, of 65 (.unOp .not 4 (.tmp 64)) 63, ot 66 (.pick (.tmp 63) (.const (.bool true)) (.tmp 65)) 60, oo 67 (.pick (.tmp 60) (.tmp 66) (.const (.bool false)))] ∧ RR r230_9 [oo 2 (.assign (.const (.bool false)))] ∧ RR r230_5 [oo 18 (oM 3), oo 19 (oC .add 3 18 1), oo 3 (oG 19)] ∧ RI b230_0 (.seq (.seq (r230_4) (.cond (.tmp 17) (.skip) (.exit 0))) (.seq (.block 1 (.seq (r230_6) (.seq (r230_7) (.seq (r230_8) (.cond (.tmp 67) (.seq (r230_9) (.ret)) (.skip)))))) (r230_5))) ∧ KeepS T 230 b230_0 [0, 3] ∧ RR r230_10 [oo 2 (.assign (.const (.bool true)))] ∧ FinF T 230 [.tmp 2] false := by refine ⟨runR T ?_, runR T ?_, runR T ?_, runR T ?_, runR T ?_, runR T ?_, runR T ?_, runR T ?_, runR T ?_, runR T ?_, runIc T ?_, keepS T ?_, runR T ?_, finI T (F := Tryz.f230) ?_ ?_ ?_⟩ <;> kernel_rfl
@[go_sem] theorem fr13 : Fct T 13 false none false ∧ Res1 T 13 4 := by refine ⟨⟨?_, ?_, ?_⟩, res1 T (F := Tryz.f13) ?_ ?_⟩ <;> kernel_rfl
@[go_sem] theorem fr16 : Fct T 16 false none false ∧ Res1 T 16 4 := by refine ⟨⟨?_, ?_, ?_⟩, res1 T (F := Tryz.f16) ?_ ?_⟩ <;> kernel_rfl
@[go_sem] theorem fr92 : Fct T 92 false none false ∧ Res2 T 92 9 29 [] := by refine ⟨⟨?_, ?_, ?_⟩, res2 T (F := Tryz.f92) ?_ ?_⟩ <;> kernel_rfl
@[go_sem] theorem fr93 : Fct T 93 false none false ∧ Res2 T 93 32 3 [29] := by refine ⟨⟨?_, ?_, ?_⟩, res2 T (F := Tryz.f93) ?_ ?_⟩ <;> kernel_rfl
@[go_sem] theorem fr94 : Fct T 94 false none false ∧ Res1 T 94 9 := by refine ⟨⟨?_, ?_, ?_⟩, res1 T (F := Tryz.f94) ?_ ?_⟩ <;> kernel_rfl
@[go_sem] theorem fr95 : Fct T 95 false none false ∧ Res2 T 95 23 3 [3] := by refine ⟨⟨?_, ?_, ?_⟩, res2 T (F := Tryz.f95) ?_ ?_⟩ <;> kernel_rfl
@[go_sem] theorem fr96 : Fct T 96 false none false ∧ Res1 T 96 4 := by refine ⟨⟨?_, ?_, ?_⟩, res1 T (F := Tryz.f96) ?_ ?_⟩ <;> kernel_rfl
@[go_sem] theorem fr97 : Fct T 97 false none false ∧ Res1 T 97 23 := by refine ⟨⟨?_, ?_, ?_⟩, res1 T (F := Tryz.f97) ?_ ?_⟩ <;> kernel_rfl
def r13_0 := nv 2 Tryz.f13
def r13_1 := nv 12 Tryz.f13
def r13_2 := nv 52 Tryz.f13
def r13_3 := nv 14 Tryz.f13
def r13_4 := nv 30 Tryz.f13
def r13_5 := nv 62 Tryz.f13
def r13_6 := nv 252 Tryz.f13
def r13_7 := nv 506 Tryz.f13
def r13_8 := nv 254 Tryz.f13
def r13_9 := nv 510 Tryz.f13
theorem ent13 : Ent T 13 81 (.seq (r13_0) (.seq (.seq (r13_1) (.cond (.tmp 27) (.seq (r13_2) (.ret)) (.skip))) (.seq (r13_3) (.seq (r13_4) (.seq (r13_5) (.seq (.seq (r13_6) (.cond (.tmp 44) (r13_7) (.skip))) (.seq (r13_8) (.seq (r13_9) (.ret))))))))) := entI T (F := Tryz.f13) (by kernel_rfl) (by kernel_rfl) (by kernel_rfl)
@[go_sem ↓] theorem run13 : RR r13_0 [oo 2 (.box 25 (.tmp 0)), oo 4 (.assign (.const (.bool false)))] ∧ RR r13_1 [oo 15 (oL 25 2), oo 16 (o1 15 15 25), oo 17 (.unOp .not 4 (.tmp 16)), oo 18 (oM 17), of 19 (oM 1) 18, of 20 (oN 19 9) 18, of 21 (oC .gtr 3 20 400) 18, of 22 (oM 21) 18, ot 23 (oM 1) 22, ot 24 (oN 23 9) 22, ot 25 (oC .neq 3 24 4097) 22, of 26 (.pick (.tmp 22) (.tmp 25) (.const (.bool false))) 18, oo 27 (.pick (.tmp 18) (.const (.bool true)) (.tmp 26))] ∧ RR r13_2 [oo 28 (.call ⟨.value (.func 16), #[], #[]⟩), oo 4 (oG 28)] ∧ RR r13_3 [oo 30 (oL 25 2), oo 31 (o1 18 30 25), oo 32 (o1 92 31 34), oo 29 (oM 32), oo 33 (oX 29 0), oo 34 (oX 29 1), oo 5 (oG 33), oo 6 (oG 34)] ∧ RR r13_4 [oo 36 (oM 1), oo 37 (o1 93 36 9), oo 35 (oM 37), oo 38 (oX 35 0), oo 39 (oX 35 1), oo 40 (oX 35 2), oo 7 (oG 38), oo 8 (oG 39), oo 9 (oG 40)] ∧ RR r13_5 [oo 41 (oL 25 2), oo 42 (o1 20 41 25), oo 10 (oG 42), oo 11 (.assign (.const (.string ⟨#[]⟩)))] ∧ RR r13_6 [oo 43 (oM 10), oo 44 (oC .eql 3 43 0)] ∧ RR r13_7 [oo 45 (oF 25 2 2), oo 46 (oL 23 45), oo 47 (o1 94 46 23), oo 11 (oG 47)] ∧ RR r13_8 [oo 49 (oM 1), oo 50 (o1 95 49 9), oo 48 (oM 50), oo 51 (oX 48 0), oo 52 (oX 48 1), oo 53 (oX 48 2), oo 12 (oG 51), oo 13 (oG 52), oo 14 (oG 53)] ∧ RR r13_9 [oo 54 (oM 5), oo 55 (oM 11), oo 56 (oB .eql 9 54 55), oo 57 (oM 56), ot 58 (oM 6) 57, ot 59 (oM 10) 57, ot 60 (oB .eql 3 58 59) 57, oo 61 (.pick (.tmp 57) (.tmp 60) (.const (.bool false))), oo 62 (oM 61), ot 63 (oM 7) 62, ot 64 (o1 97 63 32) 62, ot 65 (oM 12) 62, ot 66 (o2 96 64 65 23 23) 62, oo 67 (.pick (.tmp 62) (.tmp 66) (.const (.bool false))), oo 68 (oM 67), ot 69 (oM 8) 68, ot 70 (oM 13) 68, ot 71 (oB .eql 3 69 70) 68, oo 72 (.pick (.tmp 68) (.tmp 71) (.const (.bool false))), oo 73 (oM 72), ot 74 (oM 9) 73, ot 75 (oM 14) 73, ot 76 (oB .eql 3 74 75) 73, oo 77 (.pick (.tmp 73) (.tmp 76) (.const (.bool false))), oo 78 (oM 77), ot 79 (.call ⟨.value (.func 16), #[], #[]⟩) 78, oo 80 (.pick (.tmp 78) (.tmp 79) (.const (.bool false))), oo 4 (oG 80)] ∧ FinF T 13 [.tmp 4] false := by refine ⟨runR T ?_, runR T ?_, runR T ?_, runR T ?_, runR T ?_, runR T ?_, runR T ?_, runR T ?_, runR T ?_, runR T ?_, finI T (F := Tryz.f13) ?_ ?_ ?_⟩ <;> kernel_rfl
@[go_sem] theorem fr86 : Fct T 86 false none false ∧ Res1 T 86 9 := by refine ⟨⟨?_, ?_, ?_⟩, res1 T (F := Tryz.f86) ?_ ?_⟩ <;> kernel_rfl
def r86_0 := nv 2 Tryz.f86
def r86_1 := nv 12 Tryz.f86
def r86_2 := nv 52 Tryz.f86
def r86_3 := nv 14 Tryz.f86
def r86_4 := nv 60 Tryz.f86
def b86_0 := nv 244 Tryz.f86
def r86_5 := nv 976 Tryz.f86
def r86_7 := nv 1956 Tryz.f86
def r86_6 := nv 979 Tryz.f86
def r86_8 := nv 124 Tryz.f86
def r86_9 := nv 500 Tryz.f86
def r86_10 := nv 126 Tryz.f86
theorem ent86 : Ent T 86 29 (.seq (r86_0) (.seq (.seq (r86_1) (.cond (.tmp 6) (.seq (r86_2) (.ret)) (.skip))) (.seq (r86_3) (.seq (.seq (r86_4) (.block 0 (.loop b86_0))) (.seq (.seq (r86_8) (.cond (.tmp 25) (.seq (r86_9) (.ret)) (.skip))) (.seq (r86_10) (.ret))))))) := entI T (F := Tryz.f86) (by kernel_rfl) (by kernel_rfl) (by kernel_rfl)
@[go_sem ↓] theorem run86 : RR r86_0 [oo 2 (.assign (.const (.string ⟨#[]⟩)))] ∧ RR r86_1 [oo 5 (oM 0), oo 6 (oC .eql 3 5 0)] ∧ RR r86_2 [oo 2 (.assign (.const (.string ⟨#[48]⟩)))] ∧ RR r86_3 [oo 3 (.assign (.const (.string ⟨#[]⟩)))] ∧ RR r86_4 [oo 7 (oM 0), oo 4 (oG 7)] ∧ RR r86_5 [oo 8 (oM 4), oo 9 (oC .neq 3 8 0)] ∧ RR r86_7 [oo 12 (oM 4), oo 13 (oC .rem 3 12 10), oo 14 (oM 4), oo 15 (oC .rem 3 14 10), oo 16 (.binOp .sub 3 (.const (.int .i64 0)) (.tmp 15) 3), oo 17 (.call ⟨.builtin .max, #[.tmp 13, .tmp 16], #[3, 3]⟩), oo 18 (.binOp .add 3 (.const (.int .i64 48)) (.tmp 17) 3), oo 19 (.convert 3 5 (.tmp 18)), oo 20 (oS 253 19), oo 21 (.convert 253 9 (.tmp 20)), oo 22 (oM 3), oo 23 (oB .add 9 21 22), oo 3 (oG 23)] ∧ RR r86_6 [oo 10 (oM 4), oo 11 (oC .quo 3 10 10), oo 4 (oG 11)] ∧ RI b86_0 (.seq (.seq (r86_5) (.cond (.tmp 9) (.skip) (.exit 0))) (.seq (.block 1 (r86_7)) (r86_6))) ∧ KeepS T 86 b86_0 [0, 3, 4] ∧ RR r86_8 [oo 24 (oM 0), oo 25 (oC .lss 3 24 0)] ∧ RR r86_9 [oo 26 (oM 3), oo 27 (.binOp .add 9 (.const (.string ⟨#[45]⟩)) (.tmp 26) 9), oo 2 (oG 27)] ∧ RR r86_10 [oo 28 (oM 3), oo 2 (oG 28)] ∧ FinF T 86 [.tmp 2] false := by refine ⟨runR T ?_, runR T ?_, runR T ?_, runR T ?_, runR T ?_, runR T ?_, runR T ?_, runR T ?_, runIc T ?_, keepS T ?_, runR T ?_, runR T ?_, runR T ?_, finI T (F := Tryz.f86) ?_ ?_ ?_⟩ <;> kernel_rfl
@[go_sem] theorem fct173 : Fct T 173 false (some joinV) false := ⟨by kernel_rfl, by kernel_rfl, by kernel_rfl⟩
@[go_sem] theorem res173 : Res1 T 173 9 := res1 T (F := Tryz.f173) (by kernel_rfl) (by kernel_rfl)
@[go_sem] theorem fr174 : Fct T 174 false none false ∧ Res1 T 174 60 := by refine ⟨⟨?_, ?_, ?_⟩, res1 T (F := Tryz.f174) ?_ ?_⟩ <;> kernel_rfl
@[go_sem] theorem fr175 : Fct T 175 false none false ∧ Res1 T 175 9 := by refine ⟨⟨?_, ?_, ?_⟩, res1 T (F := Tryz.f175) ?_ ?_⟩ <;> kernel_rfl
def r92_0 := nv 2 Tryz.f92
def r92_1 := nv 12 Tryz.f92
def r92_2 := nv 26 Tryz.f92
def r92_3 := nv 108 Tryz.f92
def r92_4 := nv 14 Tryz.f92
theorem ent92 : Ent T 92 14 (.seq (r92_0) (.seq (.seq (r92_1) (.seq (r92_2) (.cond (.tmp 8) (.seq (r92_3) (.ret)) (.skip)))) (.seq (r92_4) (.ret)))) := entI T (F := Tryz.f92) (by kernel_rfl) (by kernel_rfl) (by kernel_rfl)
@[go_sem ↓] theorem run92 : RR r92_0 [oo 1 (.box 34 (.tmp 0)), oo 2 (.assign (.const (.string ⟨#[]⟩))), oo 3 (oi 0)] ∧ RR r92_1 [oo 5 (oL 34 1), oo 6 (o1 23 5 34), oo 4 (oG 6)] ∧ RR r92_2 [oo 7 (oM 4), oo 8 (oC .neq 29 7 0)] ∧ RR r92_3 [oo 9 (oM 4), oo 2 (.assign (.const (.string ⟨#[]⟩))), oo 3 (oG 9)] ∧ RR r92_4 [oo 10 (oF 34 1 2), oo 11 (oL 32 10), oo 12 (.call ⟨.value (.func 174), #[.tmp 11, .func 175], #[32, 257]⟩), oo 13 (.call ⟨.value (.func 173), #[.tmp 12, .const (.string ⟨#[]⟩)], #[60, 9]⟩), oo 2 (oG 13), oo 3 (oi 0)] ∧ FinF T 92 [.tmp 2, .tmp 3] false := by refine ⟨runR T ?_, runR T ?_, runR T ?_, runR T ?_, runR T ?_, finI T (F := Tryz.f92) ?_ ?_ ?_⟩ <;> kernel_rfl
@[go_sem] theorem fr176 : Fct T 176 true none false ∧ Res1 T 176 260 := by refine ⟨⟨?_, ?_, ?_⟩, res1 T (F := Tryz.f176) ?_ ?_⟩ <;> kernel_rfl
@[go_sem] theorem fr177 : Fct T 177 false none false ∧ Res2 T 177 9 4 [] := by refine ⟨⟨?_, ?_, ?_⟩, res2 T (F := Tryz.f177) ?_ ?_⟩ <;> kernel_rfl
@[go_sem] theorem fr178 : Fct T 178 false none false ∧ Res1 T 178 60 := by refine ⟨⟨?_, ?_, ?_⟩, res1 T (F := Tryz.f178) ?_ ?_⟩ <;> kernel_rfl
@[go_sem] theorem fr179 : Fct T 179 true none false ∧ Res1 T 179 9 := by refine ⟨⟨?_, ?_, ?_⟩, res1 T (F := Tryz.f179) ?_ ?_⟩ <;> kernel_rfl
@[go_sem] theorem fr180 : Fct T 180 true none false ∧ Res1 T 180 3 := by refine ⟨⟨?_, ?_, ?_⟩, res1 T (F := Tryz.f180) ?_ ?_⟩ <;> kernel_rfl
def r93_0 := nv 2 Tryz.f93
def r93_1 := nv 12 Tryz.f93
def r93_2 := nv 52 Tryz.f93
def r93_3 := nv 14 Tryz.f93
def r93_4 := nv 60 Tryz.f93
def a93_0 := nv 244 Tryz.f93
def c93_0 := nv 245 Tryz.f93
def r93_5 := nv 244 Tryz.f93
def r93_6 := nv 980 Tryz.f93
def r93_7 := nv 1962 Tryz.f93
def r93_8 := nv 3926 Tryz.f93
def r93_9 := nv 7854 Tryz.f93
def r93_10 := nv 15710 Tryz.f93
def r93_11 := nv 31422 Tryz.f93
def b93_1 := nv 251384 Tryz.f93
def r93_12 := nv 1005536 Tryz.f93
def r93_13 := nv 2011076 Tryz.f93
def r93_14 := nv 4022154 Tryz.f93
def r93_15 := nv 8044310 Tryz.f93
def r93_16 := nv 8044311 Tryz.f93
def r93_17 := nv 251388 Tryz.f93
def r93_18 := nv 1005556 Tryz.f93
def r93_19 := nv 125695 Tryz.f93
def r93_20 := nv 124 Tryz.f93
def r93_21 := nv 250 Tryz.f93
def r93_22 := nv 1004 Tryz.f93
def r93_23 := nv 126 Tryz.f93
theorem ent93 : Ent T 93 88 (.seq (r93_0) (.seq (.seq (r93_1) (.cond (.tmp 18) (.seq (r93_2) (.ret)) (.skip))) (.seq (r93_3) (.seq (.seq (r93_4) (.block 0 (.rangeFunc (.tmp 20) #[21] a93_0 c93_0))) (.seq (.seq (r93_20) (.seq (r93_21) (.cond (.tmp 83) (.seq (r93_22) (.ret)) (.skip)))) (.seq (r93_23) (.ret))))))) := entI T (F := Tryz.f93) (by kernel_rfl) (by kernel_rfl) (by kernel_rfl)
@[go_sem ↓] theorem run93 : RR r93_0 [oo 2 (.alloc 32), oo 3 (.alloc 3), oo 4 (.alloc 29)] ∧ RR r93_1 [oo 16 (oM 0), oo 17 (oN 16 9), oo 18 (oC .gtr 3 17 4096)] ∧ RR r93_2 [⟨none, .store 32 (.tmp 2) (.const (.slice none 0 0)), none⟩, ⟨none, .store 3 (.tmp 3) (.const (.int .i64 0)), none⟩, ⟨none, .store 29 (.tmp 4) (.const (.int .i64 26)), none⟩] ∧ RR r93_3 [oo 5 (.alloc 32)] ∧ RR r93_4 [oo 19 (oM 0), oo 20 (o1 176 19 9)] ∧ RR r93_5 [oo 6 (oG 21)] ∧ RR r93_6 [oo 23 (oM 6), oo 24 (.call ⟨.value (.func 177), #[.tmp 23, .const (.string ⟨#[10]⟩)], #[9, 9]⟩), oo 22 (oM 24), oo 25 (oX 22 0), oo 26 (oX 22 1), oo 7 (oG 25), oo 8 (oG 26)] ∧ RR r93_7 [oo 27 (oM 7), oo 28 (.call ⟨.value (.func 178), #[.tmp 27, .const (.string ⟨#[32]⟩)], #[9, 9]⟩), oo 29 (.build 267 #[(0, .tmp 28)]), oo 30 (.box 267 (.tmp 29)), oo 9 (oG 30)] ∧ RR r93_8 [oo 31 (oM 9), oo 32 (.makeFunc (.func 179) #[.tmp 31] #[]), oo 33 (oM 9), oo 34 (.makeFunc (.func 180) #[.tmp 33] #[]), oo 10 (oG 32), oo 11 (oG 34)] ∧ RR r93_9 [oo 35 (oM 10), oo 36 (.call ⟨.value (.tmp 35), #[], #[]⟩), oo 37 (.binOp .eql 9 (.tmp 36) (.const (.string ⟨#[99, 97, 117, 115, 101]⟩)) 9), oo 12 (oG 37)] ∧ RR r93_10 [oo 38 (oM 10), oo 39 (.call ⟨.value (.tmp 38), #[], #[]⟩), oo 40 (.build 180 #[(0, .tmp 39)]), oo 13 (.alloc 180), ow 180 13 40] ∧ RR r93_11 [oo 41 (oM 11), oo 42 (.call ⟨.value (.tmp 41), #[], #[]⟩), oo 43 (oF 180 13 1), ow 3 43 42] ∧ RR r93_12 [oo 44 (oM 9), oo 45 (.nilCheck (.tmp 44)), oo 46 (oF 267 45 0), oo 47 (oL 60 46), oo 48 (oN 47 60), oo 49 (oC .gtr 3 48 0)] ∧ RR r93_13 [oo 14 (.alloc 142)] ∧ RR r93_14 [oo 50 (oM 11), oo 51 (.call ⟨.value (.tmp 50), #[], #[]⟩), oo 52 (oF 142 14 0), ow 3 52 51] ∧ RR r93_15 [oo 53 (oM 11), oo 54 (.call ⟨.value (.tmp 53), #[], #[]⟩), oo 55 (oF 142 14 1), ow 3 55 54] ∧ RR r93_16 [oo 56 (oF 180 13 2), oo 57 (oL 72 56), oo 58 (oL 142 14), oo 59 (oS 72 58), oo 60 (oA 57 59 72), oo 61 (oF 180 13 2), ow 72 61 60] ∧ RI b93_1 (.seq (.seq (r93_12) (.cond (.tmp 49) (.skip) (.exit 2))) (.block 3 (.seq (r93_13) (.seq (r93_14) (.seq (r93_15) (r93_16)))))) ∧ KeepS T 93 b93_1 [2, 3, 4, 5, 8, 9, 11, 12, 13] ∧ RR r93_17 [oo 62 (oM 8), oo 63 (.unOp .not 4 (.tmp 62)), oo 64 (oM 63), of 65 (oM 12) 64, of 66 (.unOp .not 4 (.tmp 65)) 64, oo 67 (.pick (.tmp 64) (.const (.bool true)) (.tmp 66)), oo 68 (oM 67), of 69 (oM 9) 68, of 70 (.nilCheck (.tmp 69)) 68, of 71 (oF 267 70 1) 68, of 72 (oL 4 71) 68, oo 73 (.pick (.tmp 68) (.const (.bool true)) (.tmp 72))] ∧ RD r93_18 93 [oo 74 (oL 32 5), oo 75 (oN 74 32), ⟨none, .store 32 (.tmp 2) (.const (.slice none 0 0)), none⟩, ow 3 3 75, ⟨none, .store 29 (.tmp 4) (.const (.int .i64 25)), none⟩] [(0, 2), (1, 2)] ∧ RR r93_19 [oo 76 (oL 32 5), oo 77 (oL 180 13), oo 78 (oS 32 77), oo 79 (oA 76 78 32), ow 32 5 79] ∧ RI a93_0 (r93_5) ∧ RI c93_0 (.block 1 (.seq (r93_6) (.seq (r93_7) (.seq (r93_8) (.seq (r93_9) (.seq (r93_10) (.seq (r93_11) (.seq (.block 2 (.loop b93_1)) (.seq (.seq (r93_17) (.cond (.tmp 73) (.seq (r93_18) (.ret)) (.skip))) (r93_19)))))))))) ∧ RR r93_20 [oo 80 (oL 32 5), oo 81 (o1 120 80 32), oo 15 (oG 81)] ∧ RR r93_21 [oo 82 (oM 15), oo 83 (oC .neq 29 82 0)] ∧ RD r93_22 93 [oo 84 (oL 32 5), oo 85 (oN 84 32), oo 86 (oM 15), ⟨none, .store 32 (.tmp 2) (.const (.slice none 0 0)), none⟩, ow 3 3 85, ow 29 4 86] [(0, 2), (1, 2), (0, 3), (1, 3), (2, 3), (2, 4)] ∧ RR r93_23 [oo 87 (oL 32 5), ow 32 2 87, ⟨none, .store 3 (.tmp 3) (.const (.int .i64 0)), none⟩, ⟨none, .store 29 (.tmp 4) (.const (.int .i64 0)), none⟩] ∧ FinF T 93 [.cell 2 32, .cell 3 3, .cell 4 29] false := by refine ⟨runR T ?_, runR T ?_, runR T ?_, runR T ?_, runR T ?_, runR T ?_, runR T ?_, runR T ?_, runR T ?_, runR T ?_, runR T ?_, runR T ?_, runR T ?_, runR T ?_, runR T ?_, runR T ?_, runR T ?_, runIc T ?_, keepS T ?_, runR T ?_, runD T (id := 18) ?_ ?_, runR T ?_, runIc T ?_, runIc T ?_, runR T ?_, runR T ?_, runD T (id := 22) ?_ ?_, runR T ?_, finI T (F := Tryz.f93) ?_ ?_ ?_⟩ <;> kernel_rfl
def r94_0 := nv 2 Tryz.f94
def r94_1 := nv 6 Tryz.f94
def r94_2 := nv 28 Tryz.f94
def b94_0 := nv 116 Tryz.f94
def r94_3 := nv 464 Tryz.f94
def r94_5 := nv 1864 Tryz.f94
def r94_6 := nv 7460 Tryz.f94
def b94_1 := nv 29844 Tryz.f94
def r94_7 := nv 119376 Tryz.f94
def r94_9 := nv 238756 Tryz.f94
def r94_8 := nv 119379 Tryz.f94
def r94_10 := nv 3731 Tryz.f94
def r94_4 := nv 467 Tryz.f94
def r94_11 := nv 30 Tryz.f94
theorem ent94 : Ent T 94 66 (.seq (r94_0) (.seq (r94_1) (.seq (.seq (r94_2) (.block 0 (.loop b94_0))) (.seq (r94_11) (.ret))))) := entI T (F := Tryz.f94) (by kernel_rfl) (by kernel_rfl) (by kernel_rfl)
@[go_sem ↓] theorem run94 : RR r94_0 [oo 2 (.assign (.const (.string ⟨#[]⟩)))] ∧ RR r94_1 [oo 3 (.assign (.const (.string ⟨#[]⟩)))] ∧ RR r94_2 [oo 4 (oi 0)] ∧ RR r94_3 [oo 6 (oM 4), oo 7 (oM 0), oo 8 (oN 7 23), oo 9 (oB .lss 3 6 8)] ∧ RD r94_5 94 [oo 12 (oM 3), oo 13 (.binOp .add 9 (.tmp 12) (.const (.string ⟨#[99, 97, 117, 115, 101, 32]⟩)) 9), oo 14 (oM 0), oo 15 (oM 4), oo 16 (oI 23 14 15), oo 17 (oF 140 16 0), oo 18 (oL 9 17), oo 19 (oB .add 9 13 18), oo 20 (.binOp .add 9 (.tmp 19) (.const (.string ⟨#[32]⟩)) 9), oo 21 (oM 0), oo 22 (oM 4), oo 23 (oI 23 21 22), oo 24 (oF 140 23 1), oo 25 (oL 3 24), oo 26 (o1 86 25 3), oo 27 (oB .add 9 20 26), oo 3 (oG 27)] [(0, 2), (1, 2), (0, 3), (1, 3), (2, 3), (0, 4), (1, 4), (0, 5), (1, 5), (0, 6), (1, 6), (0, 9), (1, 9), (2, 9), (3, 9), (4, 9), (5, 9), (6, 9), (7, 9), (8, 9), (0, 10), (1, 10), (2, 10), (3, 10), (4, 10), (5, 10), (6, 10), (7, 10), (8, 10), (9, 10), (0, 11), (1, 11), (2, 11), (3, 11), (4, 11), (5, 11), (6, 11), (7, 11), (8, 11), (0, 12), (1, 12), (2, 12), (3, 12), (4, 12), (5, 12), (6, 12), (7, 12), (8, 12), (0, 13), (1, 13), (2, 13), (3, 13), (4, 13), (5, 13), (6, 13), (7, 13), (8, 13), (0, 14), (1, 14), (2, 14), (3, 14), (4, 14), (5, 14), (6, 14), (7, 14), (8, 14)] ∧ RR r94_6 [oo 5 (oi 0)] ∧ RR r94_7 [oo 28 (oM 5), oo 29 (oM 0), oo 30 (oM 4), oo 31 (oI 23 29 30), oo 32 (oF 140 31 2), oo 33 (oL 72 32), oo 34 (oN 33 72), oo 35 (oB .lss 3 28 34)] ∧ RD r94_9 94 [oo 38 (oM 3), oo 39 (.binOp .add 9 (.tmp 38) (.const (.string ⟨#[32]⟩)) 9), oo 40 (oM 0), oo 41 (oM 4), oo 42 (oI 23 40 41), oo 43 (oF 140 42 2), oo 44 (oL 72 43), oo 45 (oM 5), oo 46 (oI 72 44 45), oo 47 (oF 142 46 0), oo 48 (oL 3 47), oo 49 (o1 86 48 3), oo 50 (oB .add 9 39 49), oo 51 (.binOp .add 9 (.tmp 50) (.const (.string ⟨#[32]⟩)) 9), oo 52 (oM 0), oo 53 (oM 4), oo 54 (oI 23 52 53), oo 55 (oF 140 54 2), oo 56 (oL 72 55), oo 57 (oM 5), oo 58 (oI 72 56 57), oo 59 (oF 142 58 1), oo 60 (oL 3 59), oo 61 (o1 86 60 3), oo 62 (oB .add 9 51 61), oo 3 (oG 62)] [(0, 2), (1, 2), (0, 3), (1, 3), (2, 3), (0, 4), (1, 4), (0, 5), (1, 5), (0, 6), (1, 6), (0, 7), (1, 7), (2, 7), (3, 7), (4, 7), (5, 7), (6, 7), (0, 8), (1, 8), (0, 9), (1, 9), (0, 10), (1, 10), (0, 11), (1, 11), (0, 14), (1, 14), (2, 14), (3, 14), (4, 14), (5, 14), (6, 14), (7, 14), (8, 14), (9, 14), (10, 14), (11, 14), (12, 14), (13, 14), (0, 15), (1, 15), (2, 15), (3, 15), (4, 15), (5, 15), (6, 15), (7, 15), (8, 15), (9, 15), (10, 15), (11, 15), (12, 15), (13, 15), (14, 15), (0, 16), (1, 16), (2, 16), (3, 16), (4, 16), (5, 16), (6, 16), (7, 16), (8, 16), (9, 16), (10, 16), (11, 16), (12, 16), (13, 16), (0, 17), (1, 17), (2, 17), (3, 17), (4, 17), (5, 17), (6, 17), (7, 17), (8, 17), (9, 17), (10, 17), (11, 17), (12, 17), (13, 17), (0, 18), (1, 18), (2, 18), (3, 18), (4, 18), (5, 18), (6, 18), (7, 18), (8, 18), (9, 18), (10, 18), (11, 18), (12, 18), (13, 18), (0, 19), (1, 19), (2, 19), (3, 19), (4, 19), (5, 19), (6, 19), (7, 19), (8, 19), (9, 19), (10, 19), (11, 19), (12, 19), (13, 19), (14, 19), (15, 19), (16, 19), (17, 19), (18, 19), (0, 20), (1, 20), (2, 20), (3, 20), (4, 20), (5, 20), (6, 20), (7, 20), (8, 20), (9, 20), (10, 20), (11, 20), (12, 20), (13, 20), (0, 21), (1, 21), (2, 21), (3, 21), (4, 21), (5, 21), (6, 21), (7, 21), (8, 21), (9, 21), (10, 21), (11, 21), (12, 21), (13, 21), (0, 22), (1, 22), (2, 22), (3, 22), (4, 22), (5, 22), (6, 22), (7, 22), (8, 22), (9, 22), (10, 22), (11, 22), (12, 22), (13, 22), (0, 23), (1, 23), (12, 23), (13, 23)] ∧ RR r94_8 [oo 36 (oM 5), oo 37 (oC .add 3 36 1), oo 5 (oG 37)] ∧ RI b94_1 (.seq (.seq (r94_7) (.cond (.tmp 35) (.skip) (.exit 2))) (.seq (.block 3 (r94_9)) (r94_8))) ∧ KeepS T 94 b94_1 [0, 3, 4, 5] ∧ RR r94_10 [oo 63 (oM 3), oo 64 (.binOp .add 9 (.tmp 63) (.const (.string ⟨#[10]⟩)) 9), oo 3 (oG 64)] ∧ RR r94_4 [oo 10 (oM 4), oo 11 (oC .add 3 10 1), oo 4 (oG 11)] ∧ RI b94_0 (.seq (.seq (r94_3) (.cond (.tmp 9) (.skip) (.exit 0))) (.seq (.block 1 (.seq (r94_5) (.seq (.seq (r94_6) (.block 2 (.loop b94_1))) (r94_10)))) (r94_4))) ∧ KeepS T 94 b94_0 [0, 3, 4] ∧ RR r94_11 [oo 65 (oM 3), oo 2 (oG 65)] ∧ FinF T 94 [.tmp 2] false := by refine ⟨runR T ?_, runR T ?_, runR T ?_, runR T ?_, runD T (id := 5) ?_ ?_, runR T ?_, runR T ?_, runD T (id := 9) ?_ ?_, runR T ?_, runIc T ?_, keepS T ?_, runR T ?_, runR T ?_, runIc T ?_, keepS T ?_, runR T ?_, finI T (F := Tryz.f94) ?_ ?_ ?_⟩ <;> kernel_rfl
@[go_sem] theorem fr181 : Fct T 181 false none false ∧ Res1 T 181 60 := by refine ⟨⟨?_, ?_, ?_⟩, res1 T (F := Tryz.f181) ?_ ?_⟩ <;> kernel_rfl
@[go_sem] theorem fr182 : Fct T 182 false none false ∧ Res2 T 182 3 4 [] := by refine ⟨⟨?_, ?_, ?_⟩, res2 T (F := Tryz.f182) ?_ ?_⟩ <;> kernel_rfl
def r95_0 := nv 2 Tryz.f95
def r95_1 := nv 12 Tryz.f95
def r95_2 := nv 52 Tryz.f95
def r95_3 := nv 14 Tryz.f95
def r95_4 := nv 30 Tryz.f95
def r95_5 := nv 62 Tryz.f95
def r95_6 := nv 252 Tryz.f95
def b95_0 := nv 1012 Tryz.f95
def r95_7 := nv 4048 Tryz.f95
def r95_9 := nv 16200 Tryz.f95
def r95_10 := nv 64804 Tryz.f95
def r95_11 := nv 259220 Tryz.f95
def r95_12 := nv 64806 Tryz.f95
def r95_13 := nv 259228 Tryz.f95
def b95_1 := nv 1036916 Tryz.f95
def r95_14 := nv 4147664 Tryz.f95
def r95_16 := nv 16590664 Tryz.f95
def r95_17 := nv 66362660 Tryz.f95
def r95_18 := nv 265450644 Tryz.f95
def r95_19 := nv 33181331 Tryz.f95
def r95_15 := nv 4147667 Tryz.f95
def r95_20 := nv 259230 Tryz.f95
def r95_21 := nv 1036924 Tryz.f95
def b95_2 := nv 4147700 Tryz.f95
def r95_22 := nv 16590800 Tryz.f95
def r95_24 := nv 33181604 Tryz.f95
def r95_23 := nv 16590803 Tryz.f95
def r95_25 := nv 518463 Tryz.f95
def r95_8 := nv 4051 Tryz.f95
def r95_26 := nv 508 Tryz.f95
def r95_27 := nv 2036 Tryz.f95
def r95_28 := nv 1020 Tryz.f95
def r95_29 := nv 2042 Tryz.f95
def r95_30 := nv 8172 Tryz.f95
def r95_31 := nv 1022 Tryz.f95
theorem ent95 : Ent T 95 124 (.seq (r95_0) (.seq (.seq (r95_1) (.cond (.tmp 19) (.seq (r95_2) (.ret)) (.skip))) (.seq (r95_3) (.seq (r95_4) (.seq (r95_5) (.seq (.seq (r95_6) (.block 0 (.loop b95_0))) (.seq (.seq (r95_26) (.cond (.tmp 115) (.seq (r95_27) (.ret)) (.skip))) (.seq (.seq (r95_28) (.seq (r95_29) (.cond (.tmp 120) (.seq (r95_30) (.ret)) (.skip)))) (.seq (r95_31) (.ret)))))))))) := entI T (F := Tryz.f95) (by kernel_rfl) (by kernel_rfl) (by kernel_rfl)
@[go_sem ↓] theorem run95 : RR r95_0 [oo 2 on, oo 3 (oi 0), oo 4 (oi 0)] ∧ RR r95_1 [oo 17 (oM 0), oo 18 (oN 17 9), oo 19 (oC .gtr 3 18 4096)] ∧ RR r95_2 [oo 2 on, oo 3 (oi 0), oo 4 (oi 26)] ∧ RR r95_3 [oo 20 (oM 0), oo 21 (.call ⟨.value (.func 181), #[.tmp 20, .const (.int .u8 10)], #[9, 5]⟩), oo 5 (oG 21)] ∧ RR r95_4 [oo 22 (oM 5), oo 23 (oN 22 60), oo 24 (oC .sub 3 23 1), oo 6 (oG 24)] ∧ RR r95_5 [oo 7 on] ∧ RR r95_6 [oo 8 (oi 0)] ∧ RR r95_7 [oo 25 (oM 8), oo 26 (oM 6), oo 27 (oB .lss 3 25 26)] ∧ RR r95_9 [oo 30 (oM 5), oo 31 (oM 8), oo 32 (oI 60 30 31), oo 33 (oL 9 32), oo 34 (.call ⟨.value (.func 181), #[.tmp 33, .const (.int .u8 32)], #[9, 5]⟩), oo 9 (oG 34)] ∧ RR r95_10 [oo 35 (oM 9), oo 36 (oN 35 60), oo 37 (oC .lss 3 36 3), oo 38 (oM 37), of 39 (oM 9) 38, of 40 (oN 39 60) 38, of 41 (oC .rem 3 40 2) 38, of 42 (oC .neq 3 41 1) 38, oo 43 (.pick (.tmp 38) (.const (.bool true)) (.tmp 42)), oo 44 (oM 43), of 45 (oM 9) 44, of 46 (.indexAddr 60 (.tmp 45) (.const (.int .i64 0))) 44, of 47 (oL 9 46) 44, of 48 (.binOp .neq 9 (.tmp 47) (.const (.string ⟨#[99, 97, 117, 115, 101]⟩)) 9) 44, oo 49 (.pick (.tmp 44) (.const (.bool true)) (.tmp 48)), oo 50 (oM 49), of 51 (oM 9) 50, of 52 (.indexAddr 60 (.tmp 51) (.const (.int .i64 1))) 50, of 53 (oL 9 52) 50, of 54 (.binOp .eql 9 (.tmp 53) (.const (.string ⟨#[]⟩)) 9) 50, oo 55 (.pick (.tmp 50) (.const (.bool true)) (.tmp 54))] ∧ RR r95_11 [oo 56 (oM 8), oo 2 on, oo 3 (oG 56), oo 4 (oi 25)] ∧ RR r95_12 [oo 10 on] ∧ RR r95_13 [oo 11 (oi 2)] ∧ RR r95_14 [oo 57 (oM 11), oo 58 (oM 9), oo 59 (oN 58 60), oo 60 (oB .lss 3 57 59)] ∧ RR r95_16 [oo 64 (oM 9), oo 65 (oM 11), oo 66 (oI 60 64 65), oo 67 (oL 9 66), oo 68 (o1 182 67 9), oo 63 (oM 68), oo 69 (oX 63 0), oo 70 (oX 63 1), oo 12 (oG 69), oo 13 (oG 70)] ∧ RR r95_17 [oo 71 (oM 13), oo 72 (.unOp .not 4 (.tmp 71))] ∧ RR r95_18 [oo 73 (oM 8), oo 2 on, oo 3 (oG 73), oo 4 (oi 25)] ∧ RR r95_19 [oo 74 (oM 10), oo 75 (oM 12), oo 76 (oS 28 75), oo 77 (oA 74 76 28), oo 10 (oG 77)] ∧ RR r95_15 [oo 61 (oM 11), oo 62 (oC .add 3 61 1), oo 11 (oG 62)] ∧ RI b95_1 (.seq (.seq (r95_14) (.cond (.tmp 60) (.skip) (.exit 2))) (.seq (.block 3 (.seq (r95_16) (.seq (.seq (r95_17) (.cond (.tmp 72) (.seq (r95_18) (.ret)) (.skip))) (r95_19)))) (r95_15))) ∧ KeepS T 95 b95_1 [5, 6, 7, 8, 9, 10, 11] ∧ RD r95_20 95 [oo 78 (oM 9), oo 79 (.indexAddr 60 (.tmp 78) (.const (.int .i64 1))), oo 80 (oL 9 79), oo 81 (oM 10), oo 82 (.indexAddr 28 (.tmp 81) (.const (.int .i64 0))), oo 83 (oL 3 82), oo 84 (.build 140 #[(0, .tmp 80), (1, .tmp 83)]), oo 14 (.alloc 140), ow 140 14 84] [(0, 3), (1, 3), (2, 3), (0, 4), (1, 4), (2, 4), (0, 5), (1, 5), (2, 5), (0, 7), (1, 7), (2, 7), (3, 7), (4, 7), (5, 7), (6, 7)] ∧ RR r95_21 [oo 15 (oi 1)] ∧ RR r95_22 [oo 85 (oM 15), oo 86 (oC .add 3 85 1), oo 87 (oM 10), oo 88 (oN 87 28), oo 89 (oB .lss 3 86 88)] ∧ RD r95_24 95 [oo 92 (oF 140 14 2), oo 93 (oL 72 92), oo 94 (oM 10), oo 95 (oM 15), oo 96 (oI 28 94 95), oo 97 (oL 3 96), oo 98 (oM 10), oo 99 (oM 15), oo 100 (oC .add 3 99 1), oo 101 (oI 28 98 100), oo 102 (oL 3 101), oo 103 (.build 142 #[(0, .tmp 97), (1, .tmp 102)]), oo 104 (oS 72 103), oo 105 (oA 93 104 72), oo 106 (oF 140 14 2), ow 72 106 105] [(0, 2), (1, 2), (0, 3), (1, 3), (2, 3), (0, 4), (1, 4), (0, 5), (1, 5), (0, 6), (1, 6), (2, 6), (3, 6), (4, 6), (5, 6), (0, 7), (1, 7), (2, 7), (3, 7), (4, 7), (5, 7), (6, 7), (0, 8), (1, 8), (2, 8), (3, 8), (4, 8), (5, 8), (6, 8), (0, 9), (1, 9), (2, 9), (3, 9), (4, 9), (5, 9), (0, 10), (1, 10), (2, 10), (3, 10), (4, 10), (5, 10), (0, 11), (1, 11), (0, 12), (1, 12)] ∧ RR r95_23 [oo 90 (oM 15), oo 91 (oC .add 3 90 2), oo 15 (oG 91)] ∧ RI b95_2 (.seq (.seq (r95_22) (.cond (.tmp 89) (.skip) (.exit 4))) (.seq (.block 5 (r95_24)) (r95_23))) ∧ KeepS T 95 b95_2 [5, 6, 7, 8, 10, 14, 15] ∧ RR r95_25 [oo 107 (oM 7), oo 108 (oL 140 14), oo 109 (oS 23 108), oo 110 (oA 107 109 23), oo 7 (oG 110)] ∧ RR r95_8 [oo 28 (oM 8), oo 29 (oC .add 3 28 1), oo 8 (oG 29)] ∧ RI b95_0 (.seq (.seq (r95_7) (.cond (.tmp 27) (.skip) (.exit 0))) (.seq (.block 1 (.seq (r95_9) (.seq (.seq (r95_10) (.cond (.tmp 55) (.seq (r95_11) (.ret)) (.skip))) (.seq (r95_12) (.seq (.seq (r95_13) (.block 2 (.loop b95_1))) (.seq (r95_20) (.seq (.seq (r95_21) (.block 4 (.loop b95_2))) (r95_25)))))))) (r95_8))) ∧ KeepS T 95 b95_0 [5, 6, 7, 8] ∧ RR r95_26 [oo 111 (oM 5), oo 112 (oM 6), oo 113 (oI 60 111 112), oo 114 (oL 9 113), oo 115 (.binOp .neq 9 (.tmp 114) (.const (.string ⟨#[]⟩)) 9)] ∧ RR r95_27 [oo 116 (oM 6), oo 2 on, oo 3 (oG 116), oo 4 (oi 25)] ∧ RR r95_28 [oo 117 (oM 7), oo 118 (o1 110 117 23), oo 16 (oG 118)] ∧ RR r95_29 [oo 119 (oM 16), oo 120 (oC .neq 3 119 0)] ∧ RR r95_30 [oo 121 (oM 6), oo 122 (oM 16), oo 2 on, oo 3 (oG 121), oo 4 (oG 122)] ∧ RR r95_31 [oo 123 (oM 7), oo 2 (oG 123), oo 3 (oi 0), oo 4 (oi 0)] ∧ FinF T 95 [.tmp 2, .tmp 3, .tmp 4] false := by refine ⟨runR T ?_, runR T ?_, runR T ?_, runR T ?_, runR T ?_, runR T ?_, runR T ?_, runR T ?_, runR T ?_, runR T ?_, runR T ?_, runR T ?_, runR T ?_, runR T ?_, runR T ?_, runR T ?_, runR T ?_, runR T ?_, runR T ?_, runIc T ?_, keepS T ?_, runD T (id := 20) ?_ ?_, runR T ?_, runR T ?_, runD T (id := 24) ?_ ?_, runR T ?_, runIc T ?_, keepS T ?_, runR T ?_, runR T ?_, runIc T ?_, keepS T ?_, runR T ?_, runR T ?_, runR T ?_, runR T ?_, runR T ?_, runR T ?_, finI T (F := Tryz.f95) ?_ ?_ ?_⟩ <;> kernel_rfl
@[go_sem] theorem fr127 : Fct T 127 false none false ∧ Res1 T 127 4 := by refine ⟨⟨?_, ?_, ?_⟩, res1 T (F := Tryz.f127) ?_ ?_⟩ <;> kernel_rfl
def r96_0 := nv 2 Tryz.f96
def r96_1 := nv 12 Tryz.f96
def r96_2 := nv 52 Tryz.f96
def r96_3 := nv 28 Tryz.f96
def b96_0 := nv 116 Tryz.f96
def r96_4 := nv 464 Tryz.f96
def r96_6 := nv 1864 Tryz.f96
def r96_7 := nv 7460 Tryz.f96
def r96_5 := nv 467 Tryz.f96
def r96_8 := nv 30 Tryz.f96
theorem ent96 : Ent T 96 55 (.seq (r96_0) (.seq (.seq (r96_1) (.cond (.tmp 10) (.seq (r96_2) (.ret)) (.skip))) (.seq (.seq (r96_3) (.block 0 (.loop b96_0))) (.seq (r96_8) (.ret))))) := entI T (F := Tryz.f96) (by kernel_rfl) (by kernel_rfl) (by kernel_rfl)
@[go_sem ↓] theorem run96 : RR r96_0 [oo 4 (.assign (.const (.bool false)))] ∧ RR r96_1 [oo 6 (oM 0), oo 7 (oN 6 23), oo 8 (oM 1), oo 9 (oN 8 23), oo 10 (oB .neq 3 7 9)] ∧ RR r96_2 [oo 4 (.assign (.const (.bool false)))] ∧ RR r96_3 [oo 5 (oi 0)] ∧ RR r96_4 [oo 11 (oM 5), oo 12 (oM 0), oo 13 (oN 12 23), oo 14 (oB .lss 3 11 13)] ∧ RD r96_6 96 [oo 17 (oM 0), oo 18 (oM 5), oo 19 (oI 23 17 18), oo 20 (oF 140 19 0), oo 21 (oL 9 20), oo 22 (oM 1), oo 23 (oM 5), oo 24 (oI 23 22 23), oo 25 (oF 140 24 0), oo 26 (oL 9 25), oo 27 (oB .neq 9 21 26), oo 28 (oM 27), of 29 (oM 0) 28, of 30 (oM 5) 28, of 31 (oI 23 29 30) 28, of 32 (oF 140 31 1) 28, of 33 (oL 3 32) 28, of 34 (oM 1) 28, of 35 (oM 5) 28, of 36 (oI 23 34 35) 28, of 37 (oF 140 36 1) 28, of 38 (oL 3 37) 28, of 39 (oB .neq 3 33 38) 28, oo 40 (.pick (.tmp 28) (.const (.bool true)) (.tmp 39)), oo 41 (oM 40), of 42 (oM 0) 41, of 43 (oM 5) 41, of 44 (oI 23 42 43) 41, of 45 (oF 140 44 2) 41, of 46 (oL 72 45) 41, of 47 (oM 1) 41, of 48 (oM 5) 41, of 49 (oI 23 47 48) 41, of 50 (oF 140 49 2) 41, of 51 (oL 72 50) 41, of 52 (o2 127 46 51 72 72) 41, of 53 (.unOp .not 4 (.tmp 52)) 41, oo 54 (.pick (.tmp 41) (.const (.bool true)) (.tmp 53))] [(0, 1), (0, 5), (1, 5), (2, 5), (3, 5), (4, 5), (0, 6), (1, 6), (2, 6), (3, 6), (4, 6), (5, 6), (0, 7), (1, 7), (2, 7), (3, 7), (4, 7), (0, 8), (1, 8), (2, 8), (3, 8), (4, 8), (0, 9), (1, 9), (2, 9), (3, 9), (4, 9), (12, 13), (12, 17), (13, 17), (14, 17), (15, 17), (16, 17), (12, 18), (13, 18), (14, 18), (15, 18), (16, 18), (17, 18), (12, 19), (13, 19), (14, 19), (15, 19), (16, 19), (12, 20), (13, 20), (14, 20), (15, 20), (16, 20), (12, 21), (13, 21), (14, 21), (15, 21), (16, 21), (25, 26), (25, 30), (26, 30), (27, 30), (28, 30), (29, 30), (25, 31), (26, 31), (27, 31), (28, 31), (29, 31), (30, 31), (25, 32), (26, 32), (27, 32), (28, 32), (29, 32), (25, 33), (26, 33), (27, 33), (28, 33), (29, 33), (25, 34), (26, 34), (27, 34), (28, 34), (29, 34)] ∧ RR r96_7 [oo 4 (.assign (.const (.bool false)))] ∧ RR r96_5 [oo 15 (oM 5), oo 16 (oC .add 3 15 1), oo 5 (oG 16)] ∧ RI b96_0 (.seq (.seq (r96_4) (.cond (.tmp 14) (.skip) (.exit 0))) (.seq (.block 1 (.seq (r96_6) (.cond (.tmp 54) (.seq (r96_7) (.ret)) (.skip)))) (r96_5))) ∧ KeepS T 96 b96_0 [0, 1, 5] ∧ RR r96_8 [oo 4 (.assign (.const (.bool true)))] ∧ FinF T 96 [.tmp 4] false := by refine ⟨runR T ?_, runR T ?_, runR T ?_, runR T ?_, runR T ?_, runD T (id := 6) ?_ ?_, runR T ?_, runR T ?_, runIc T ?_, keepS T ?_, runR T ?_, finI T (F := Tryz.f96) ?_ ?_ ?_⟩ <;> kernel_rfl
def r97_0 := nv 2 Tryz.f97
def r97_1 := nv 6 Tryz.f97
def r97_2 := nv 28 Tryz.f97
def b97_0 := nv 116 Tryz.f97
def r97_3 := nv 232 Tryz.f97
def r97_4 := nv 3736 Tryz.f97
def r97_5 := nv 3737 Tryz.f97
def r97_6 := nv 935 Tryz.f97
def r97_7 := nv 30 Tryz.f97
theorem ent97 : Ent T 97 18 (.seq (r97_0) (.seq (r97_1) (.seq (.seq (r97_2) (.block 0 (.loop b97_0))) (.seq (r97_7) (.ret))))) := entI T (F := Tryz.f97) (by kernel_rfl) (by kernel_rfl) (by kernel_rfl)
@[go_sem ↓] theorem run97 : RR r97_0 [oo 2 on] ∧ RR r97_1 [oo 3 on] ∧ RR r97_2 [oo 6 (oM 0), oo 7 (oN 6 32), oo 8 (.move (.const (.int .i64 0)))] ∧ RR r97_3 [oo 9 (oB .lss 3 8 7)] ∧ RR r97_4 [oo 10 (oI 32 6 8), oo 11 (oL 180 10), oo 5 (.alloc 180), ow 180 5 11] ∧ RR r97_5 [oo 12 (oM 3), oo 13 (oL 180 5), oo 14 (oS 23 13), oo 15 (oA 12 14 23), oo 3 (oG 15)] ∧ RR r97_6 [oo 16 (oC .add 3 8 1), oo 8 (oM 16)] ∧ RI b97_0 (.seq (r97_3) (.seq (.cond (.tmp 9) (.skip) (.exit 0)) (.seq (.block 1 (.seq (r97_4) (r97_5))) (r97_6)))) ∧ KeepS T 97 b97_0 [3, 6, 7, 8] ∧ RR r97_7 [oo 17 (oM 3), oo 2 (oG 17)] ∧ FinF T 97 [.tmp 2] false := by refine ⟨runR T ?_, runR T ?_, runR T ?_, runR T ?_, runR T ?_, runR T ?_, runR T ?_, runIc T ?_, keepS T ?_, runR T ?_, finI T (F := Tryz.f97) ?_ ?_ ?_⟩ <;> kernel_rfl
def r127_0 := nv 2 Tryz.f127
def r127_1 := nv 12 Tryz.f127
def r127_2 := nv 52 Tryz.f127
def r127_3 := nv 28 Tryz.f127
def b127_0 := nv 116 Tryz.f127
def r127_4 := nv 464 Tryz.f127
def r127_6 := nv 1864 Tryz.f127
def r127_7 := nv 7460 Tryz.f127
def r127_5 := nv 467 Tryz.f127
def r127_8 := nv 30 Tryz.f127
theorem ent127 : Ent T 127 26 (.seq (r127_0) (.seq (.seq (r127_1) (.cond (.tmp 10) (.seq (r127_2) (.ret)) (.skip))) (.seq (.seq (r127_3) (.block 0 (.loop b127_0))) (.seq (r127_8) (.ret))))) := entI T (F := Tryz.f127) (by kernel_rfl) (by kernel_rfl) (by kernel_rfl)
@[go_sem ↓] theorem run127 : RR r127_0 [oo 4 (.assign (.const (.bool false)))] ∧ RR r127_1 [oo 6 (oM 0), oo 7 (oN 6 72), oo 8 (oM 1), oo 9 (oN 8 72), oo 10 (oB .neq 3 7 9)] ∧ RR r127_2 [oo 4 (.assign (.const (.bool false)))] ∧ RR r127_3 [oo 5 (oi 0)] ∧ RR r127_4 [oo 11 (oM 5), oo 12 (oM 0), oo 13 (oN 12 72), oo 14 (oB .lss 3 11 13)] ∧ RD r127_6 127 [oo 17 (oM 0), oo 18 (oM 5), oo 19 (oI 72 17 18), oo 20 (oL 142 19), oo 21 (oM 1), oo 22 (oM 5), oo 23 (oI 72 21 22), oo 24 (oL 142 23), oo 25 (oB .neq 142 20 24)] [(0, 1), (0, 4), (1, 4), (2, 4), (3, 4), (0, 5), (1, 5), (2, 5), (3, 5), (4, 5), (0, 6), (1, 6), (2, 6), (3, 6), (0, 7), (1, 7), (2, 7), (3, 7)] ∧ RR r127_7 [oo 4 (.assign (.const (.bool false)))] ∧ RR r127_5 [oo 15 (oM 5), oo 16 (oC .add 3 15 1), oo 5 (oG 16)] ∧ RI b127_0 (.seq (.seq (r127_4) (.cond (.tmp 14) (.skip) (.exit 0))) (.seq (.block 1 (.seq (r127_6) (.cond (.tmp 25) (.seq (r127_7) (.ret)) (.skip)))) (r127_5))) ∧ KeepS T 127 b127_0 [0, 1, 5] ∧ RR r127_8 [oo 4 (.assign (.const (.bool true)))] ∧ FinF T 127 [.tmp 4] false := by refine ⟨runR T ?_, runR T ?_, runR T ?_, runR T ?_, runR T ?_, runD T (id := 6) ?_ ?_, runR T ?_, runR T ?_, runIc T ?_, keepS T ?_, runR T ?_, finI T (F := Tryz.f127) ?_ ?_ ?_⟩ <;> kernel_rfl
def r174_0 := nv 2 Tryz.f174
def r174_1 := nv 6 Tryz.f174
def r174_2 := nv 28 Tryz.f174
def b174_0 := nv 116 Tryz.f174
def r174_3 := nv 232 Tryz.f174
def r174_4 := nv 3736 Tryz.f174
def r174_5 := nv 3737 Tryz.f174
def r174_6 := nv 935 Tryz.f174
def r174_7 := nv 30 Tryz.f174
theorem ent174 : Ent T 174 22 (.seq (r174_0) (.seq (r174_1) (.seq (.seq (r174_2) (.block 0 (.loop b174_0))) (.seq (r174_7) (.ret))))) := entI T (F := Tryz.f174) (by kernel_rfl) (by kernel_rfl) (by kernel_rfl)
@[go_sem ↓] theorem run174 : RR r174_0 [oo 4 on] ∧ RR r174_1 [oo 5 on] ∧ RR r174_2 [oo 8 (oM 0), oo 9 (oN 8 32), oo 10 (.move (.const (.int .i64 0)))] ∧ RR r174_3 [oo 11 (oB .lss 3 10 9)] ∧ RR r174_4 [oo 12 (oI 32 8 10), oo 13 (oL 180 12), oo 7 (.alloc 180), ow 180 7 13] ∧ RR r174_5 [oo 14 (oM 5), oo 15 (oM 1), oo 16 (oL 180 7), oo 17 (.call ⟨.value (.tmp 15), #[.tmp 16], #[180]⟩), oo 18 (oS 60 17), oo 19 (oA 14 18 60), oo 5 (oG 19)] ∧ RR r174_6 [oo 20 (oC .add 3 10 1), oo 10 (oM 20)] ∧ RI b174_0 (.seq (r174_3) (.seq (.cond (.tmp 11) (.skip) (.exit 0)) (.seq (.block 1 (.seq (r174_4) (r174_5))) (r174_6)))) ∧ KeepS T 174 b174_0 [1, 5, 8, 9, 10] ∧ RR r174_7 [oo 21 (oM 5), oo 4 (oG 21)] ∧ FinF T 174 [.tmp 4] false := by refine ⟨runR T ?_, runR T ?_, runR T ?_, runR T ?_, runR T ?_, runR T ?_, runR T ?_, runIc T ?_, keepS T ?_, runR T ?_, finI T (F := Tryz.f174) ?_ ?_ ?_⟩ <;> kernel_rfl
@[go_sem] theorem fct224 : Fct T 224 false (some itoaV) false := ⟨by kernel_rfl, by kernel_rfl, by kernel_rfl⟩
@[go_sem] theorem res224 : Res1 T 224 9 := res1 T (F := Tryz.f224) (by kernel_rfl) (by kernel_rfl)
def r175_0 := nv 2 Tryz.f175
def r175_1 := nv 6 Tryz.f175
def r175_2 := nv 28 Tryz.f175
def b175_0 := nv 116 Tryz.f175
def r175_3 := nv 232 Tryz.f175
def r175_4 := nv 3736 Tryz.f175
def r175_5 := nv 3737 Tryz.f175
def r175_6 := nv 935 Tryz.f175
def r175_7 := nv 30 Tryz.f175
theorem ent175 : Ent T 175 32 (.seq (r175_0) (.seq (r175_1) (.seq (.seq (r175_2) (.block 0 (.loop b175_0))) (.seq (r175_7) (.ret))))) := entI T (F := Tryz.f175) (by kernel_rfl) (by kernel_rfl) (by kernel_rfl)
@[go_sem ↓] theorem run175 : RR r175_0 [oo 1 (.box 180 (.tmp 0)), oo 2 (.assign (.const (.string ⟨#[]⟩)))] ∧ RD r175_1 175 [oo 6 (oF 180 1 0), oo 7 (oL 9 6), oo 8 (oF 180 1 1), oo 9 (oL 3 8), oo 10 (o1 224 9 3), oo 11 (.buildSlice 60 3 #[(0, .const (.string ⟨#[99, 97, 117, 115, 101]⟩)), (1, .tmp 7), (2, .tmp 10)]), oo 3 (oG 11)] [(0, 2), (1, 2), (0, 3), (1, 3), (0, 4), (1, 4)] ∧ RR r175_2 [oo 12 (oF 180 1 2), oo 13 (oL 72 12), oo 14 (oN 13 72), oo 15 (.move (.const (.int .i64 0)))] ∧ RR r175_3 [oo 16 (oB .lss 3 15 14)] ∧ RR r175_4 [oo 17 (oI 72 13 15), oo 18 (oL 142 17), oo 5 (.alloc 142), ow 142 5 18] ∧ RD r175_5 175 [oo 19 (oM 3), oo 20 (oF 142 5 0), oo 21 (oL 3 20), oo 22 (o1 224 21 3), oo 23 (oF 142 5 1), oo 24 (oL 3 23), oo 25 (o1 224 24 3), oo 26 (.buildSlice 60 2 #[(0, .tmp 22), (1, .tmp 25)]), oo 27 (oA 19 26 60), oo 3 (oG 27)] [(0, 1), (0, 2), (0, 3), (0, 4), (1, 4), (2, 4), (3, 4), (0, 5), (1, 5), (2, 5), (3, 5), (0, 6), (0, 7)] ∧ RR r175_6 [oo 28 (oC .add 3 15 1), oo 15 (oM 28)] ∧ RI b175_0 (.seq (r175_3) (.seq (.cond (.tmp 16) (.skip) (.exit 0)) (.seq (.block 1 (.seq (r175_4) (r175_5))) (r175_6)))) ∧ KeepS T 175 b175_0 [3, 13, 14, 15] ∧ RR r175_7 [oo 29 (oM 3), oo 30 (.call ⟨.value (.func 173), #[.tmp 29, .const (.string ⟨#[32]⟩)], #[60, 9]⟩), oo 31 (.binOp .add 9 (.tmp 30) (.const (.string ⟨#[10]⟩)) 9), oo 2 (oG 31)] ∧ FinF T 175 [.tmp 2] false := by refine ⟨runR T ?_, runD T (id := 1) ?_ ?_, runR T ?_, runR T ?_, runR T ?_, runD T (id := 5) ?_ ?_, runR T ?_, runIc T ?_, keepS T ?_, runR T ?_, finI T (F := Tryz.f175) ?_ ?_ ?_⟩ <;> kernel_rfl
@[go_sem] theorem fct225 : Fct T 225 true none false := ⟨by kernel_rfl, by kernel_rfl, by kernel_rfl⟩
@[go_sem] theorem res225 : Res0 T 225 := res0 T (F := Tryz.f225) (by kernel_rfl) (by kernel_rfl)
def r176_0 := nv 2 Tryz.f176
def r176_1 := nv 6 Tryz.f176
theorem ent176 : Ent T 176 4 (.seq (r176_0) (.seq (r176_1) (.ret))) := entI T (F := Tryz.f176) (by kernel_rfl) (by kernel_rfl) (by kernel_rfl)
@[go_sem ↓] theorem run176 : RR r176_0 [oo 1 (.box 9 (.tmp 0)), oo 2 (.assign (.const (.nilFunc)))] ∧ RR r176_1 [oo 3 (.makeFunc (.func 225) #[] #[.tmp 1]), oo 2 (oG 3)] ∧ FinF T 176 [.tmp 2] true := by refine ⟨runR T ?_, runR T ?_, finI T (F := Tryz.f176) ?_ ?_ ?_⟩ <;> kernel_rfl
@[go_sem] theorem fr227 : Fct T 227 false none false ∧ Res2 T 227 9 4 [] := by refine ⟨⟨?_, ?_, ?_⟩, res2 T (F := Tryz.f227) ?_ ?_⟩ <;> kernel_rfl
def r177_0 := nv 2 Tryz.f177
def r177_1 := nv 6 Tryz.f177
theorem ent177 : Ent T 177 11 (.seq (r177_0) (.seq (r177_1) (.ret))) := entI T (F := Tryz.f177) (by kernel_rfl) (by kernel_rfl) (by kernel_rfl)
@[go_sem ↓] theorem run177 : RR r177_0 [oo 4 (.assign (.const (.string ⟨#[]⟩))), oo 5 (.assign (.const (.bool false)))] ∧ RR r177_1 [oo 6 (oM 0), oo 7 (oM 1), oo 8 (o2 227 6 7 9 9), oo 9 (oX 8 0), oo 10 (oX 8 1), oo 4 (oG 9), oo 5 (oG 10)] ∧ FinF T 177 [.tmp 4, .tmp 5] false := by refine ⟨runR T ?_, runR T ?_, finI T (F := Tryz.f177) ?_ ?_ ?_⟩ <;> kernel_rfl
@[go_sem] theorem fr228 : Fct T 228 false none false ∧ Res1 T 228 60 := by refine ⟨⟨?_, ?_, ?_⟩, res1 T (F := Tryz.f228) ?_ ?_⟩ <;> kernel_rfl
def r178_0 := nv 2 Tryz.f178
def r178_1 := nv 6 Tryz.f178
theorem ent178 : Ent T 178 8 (.seq (r178_0) (.seq (r178_1) (.ret))) := entI T (F := Tryz.f178) (by kernel_rfl) (by kernel_rfl) (by kernel_rfl)
@[go_sem ↓] theorem run178 : RR r178_0 [oo 4 on] ∧ RR r178_1 [oo 5 (oM 0), oo 6 (oM 1), oo 7 (.call ⟨.value (.func 228), #[.tmp 5, .tmp 6, .const (.int .i64 0), .const (.int .i64 (-1))], #[9, 9, 3, 3]⟩), oo 4 (oG 7)] ∧ FinF T 178 [.tmp 4] false := by refine ⟨runR T ?_, runR T ?_, finI T (F := Tryz.f178) ?_ ?_ ?_⟩ <;> kernel_rfl
def r179_0 := nv 2 Tryz.f179
def r179_1 := nv 12 Tryz.f179
def r179_2 := nv 52 Tryz.f179
def r179_3 := nv 106 Tryz.f179
def r179_4 := nv 14 Tryz.f179
def r179_5 := nv 30 Tryz.f179
def r179_6 := nv 62 Tryz.f179
theorem ent179 : Ent T 179 40 (.seq (r179_0) (.seq (.seq (r179_1) (.cond (.tmp 18) (.seq (r179_2) (.seq (r179_3) (.ret))) (.skip))) (.seq (r179_4) (.seq (r179_5) (.seq (r179_6) (.ret)))))) := entI T (F := Tryz.f179) (by kernel_rfl) (by kernel_rfl) (by kernel_rfl)
@[go_sem ↓] theorem run179 : RR r179_0 [oo 2 (.assign (.const (.string ⟨#[]⟩)))] ∧ RR r179_1 [oo 4 (oM 0), oo 5 (.nilCheck (.tmp 4)), oo 6 (oF 267 5 0), oo 7 (oL 60 6), oo 8 (oN 7 60), oo 9 (oC .eql 3 8 0), oo 10 (oM 9), of 11 (oM 0) 10, of 12 (.nilCheck (.tmp 11)) 10, of 13 (oF 267 12 0) 10, of 14 (oL 60 13) 10, of 15 (.indexAddr 60 (.tmp 14) (.const (.int .i64 0))) 10, of 16 (oL 9 15) 10, of 17 (.binOp .eql 9 (.tmp 16) (.const (.string ⟨#[]⟩)) 9) 10, oo 18 (.pick (.tmp 10) (.const (.bool true)) (.tmp 17))] ∧ RR r179_2 [oo 19 (oM 0), oo 20 (oM 0), oo 21 (.nilCheck (.tmp 19)), oo 22 (oF 267 21 0), ⟨none, .store 60 (.tmp 22) (.const (.slice none 0 0)), none⟩, oo 23 (.nilCheck (.tmp 20)), oo 24 (oF 267 23 1), ⟨none, .store 4 (.tmp 24) (.const (.bool true)), none⟩] ∧ RR r179_3 [oo 2 (.assign (.const (.string ⟨#[]⟩)))] ∧ RR r179_4 [oo 25 (oM 0), oo 26 (.nilCheck (.tmp 25)), oo 27 (oF 267 26 0), oo 28 (oL 60 27), oo 29 (.indexAddr 60 (.tmp 28) (.const (.int .i64 0))), oo 30 (oL 9 29), oo 3 (oG 30)] ∧ RR r179_5 [oo 31 (oM 0), oo 32 (oM 0), oo 33 (.nilCheck (.tmp 32)), oo 34 (oF 267 33 0), oo 35 (oL 60 34), oo 36 (.slice 60 (.tmp 35) (some (.const (.int .i64 1))) none none), oo 37 (.nilCheck (.tmp 31)), oo 38 (oF 267 37 0), ow 60 38 36] ∧ RR r179_6 [oo 39 (oM 3), oo 2 (oG 39)] ∧ FinF T 179 [.tmp 2] true := by refine ⟨runR T ?_, runR T ?_, runR T ?_, runR T ?_, runR T ?_, runR T ?_, runR T ?_, finI T (F := Tryz.f179) ?_ ?_ ?_⟩ <;> kernel_rfl
def r180_0 := nv 2 Tryz.f180
def r180_1 := nv 6 Tryz.f180
def r180_2 := nv 14 Tryz.f180
def r180_3 := nv 60 Tryz.f180
def b180_0 := nv 244 Tryz.f180
def r180_4 := nv 488 Tryz.f180
def r180_5 := nv 3916 Tryz.f180
def r180_6 := nv 15668 Tryz.f180
def r180_7 := nv 62676 Tryz.f180
def r180_8 := nv 125354 Tryz.f180
def r180_9 := nv 7835 Tryz.f180
def r180_10 := nv 62 Tryz.f180
def r180_11 := nv 126 Tryz.f180
theorem ent180 : Ent T 180 52 (.seq (r180_0) (.seq (r180_1) (.seq (r180_2) (.seq (.seq (r180_3) (.block 0 (.loop b180_0))) (.seq (r180_10) (.seq (r180_11) (.ret))))))) := entI T (F := Tryz.f180) (by kernel_rfl) (by kernel_rfl) (by kernel_rfl)
@[go_sem ↓] theorem run180 : RR r180_0 [oo 2 (oi 0)] ∧ RR r180_1 [oo 7 (oM 0), oo 8 (o1 179 7 264), oo 3 (oG 8)] ∧ RR r180_2 [oo 4 (oi 0)] ∧ RR r180_3 [oo 9 (oM 3), oo 10 (.range 9 (.tmp 9))] ∧ RR r180_4 [oo 11 (.next (.tmp 10) true), oo 12 (oX 11 0)] ∧ RR r180_5 [oo 13 (oX 11 2), oo 6 (oG 13)] ∧ RR r180_6 [oo 14 (oM 6), oo 15 (.binOp .lss 21 (.tmp 14) (.const (.int .i32 48)) 21), oo 16 (oM 15), of 17 (oM 6) 16, of 18 (.binOp .gtr 21 (.tmp 17) (.const (.int .i32 57)) 21) 16, oo 19 (.pick (.tmp 16) (.const (.bool true)) (.tmp 18)), oo 20 (oM 19), of 21 (oM 3) 20, of 22 (oN 21 9) 20, of 23 (oC .gtr 3 22 9) 20, oo 24 (.pick (.tmp 20) (.const (.bool true)) (.tmp 23))] ∧ RR r180_7 [oo 25 (oM 0), oo 26 (.nilCheck (.tmp 25)), oo 27 (oF 267 26 1), ⟨none, .store 4 (.tmp 27) (.const (.bool true)), none⟩] ∧ RR r180_8 [oo 2 (oi 0)] ∧ RR r180_9 [oo 28 (oM 4), oo 29 (.binOp .mul 3 (.const (.int .i64 10)) (.tmp 28) 3), oo 30 (oM 6), oo 31 (.binOp .sub 21 (.tmp 30) (.const (.int .i32 48)) 21), oo 32 (.convert 21 3 (.tmp 31)), oo 33 (oB .add 3 29 32), oo 4 (oG 33)] ∧ RI b180_0 (.seq (r180_4) (.seq (.cond (.tmp 12) (.skip) (.exit 0)) (.block 1 (.seq (r180_5) (.seq (.seq (r180_6) (.cond (.tmp 24) (.seq (r180_7) (.seq (r180_8) (.ret))) (.skip))) (r180_9)))))) ∧ KeepS T 180 b180_0 [0, 3, 4, 10] ∧ RR r180_10 [oo 34 (oM 0), oo 35 (oM 0), oo 36 (.nilCheck (.tmp 35)), oo 37 (oF 267 36 1), oo 38 (oL 4 37), oo 39 (oM 38), of 40 (oM 3) 39, of 41 (oN 40 9) 39, of 42 (oC .gtr 3 41 1) 39, of 43 (oM 42) 39, ot 44 (oM 3) 43, ot 45 (.index 9 (.tmp 44) (.const (.int .i64 0))) 43, ot 46 (.binOp .eql 5 (.tmp 45) (.const (.int .u8 48)) 5) 43, of 47 (.pick (.tmp 43) (.tmp 46) (.const (.bool false))) 39, oo 48 (.pick (.tmp 39) (.const (.bool true)) (.tmp 47)), oo 49 (.nilCheck (.tmp 34)), oo 50 (oF 267 49 1), ow 4 50 48] ∧ RR r180_11 [oo 51 (oM 4), oo 2 (oG 51)] ∧ FinF T 180 [.tmp 2] true := by refine ⟨runR T ?_, runR T ?_, runR T ?_, runR T ?_, runR T ?_, runR T ?_, runR T ?_, runR T ?_, runR T ?_, runR T ?_, runIc T ?_, keepS T ?_, runR T ?_, runR T ?_, finI T (F := Tryz.f180) ?_ ?_ ?_⟩ <;> kernel_rfl
def r181_0 := nv 2 Tryz.f181
def r181_1 := nv 6 Tryz.f181
def r181_2 := nv 14 Tryz.f181
def r181_3 := nv 60 Tryz.f181
def b181_0 := nv 244 Tryz.f181
def r181_4 := nv 976 Tryz.f181
def r181_6 := nv 3912 Tryz.f181
def r181_7 := nv 15652 Tryz.f181
def r181_8 := nv 15653 Tryz.f181
def r181_5 := nv 979 Tryz.f181
def r181_9 := nv 62 Tryz.f181
theorem ent181 : Ent T 181 34 (.seq (r181_0) (.seq (r181_1) (.seq (r181_2) (.seq (.seq (r181_3) (.block 0 (.loop b181_0))) (.seq (r181_9) (.ret)))))) := entI T (F := Tryz.f181) (by kernel_rfl) (by kernel_rfl) (by kernel_rfl)
@[go_sem ↓] theorem run181 : RR r181_0 [oo 4 on] ∧ RR r181_1 [oo 5 on] ∧ RR r181_2 [oo 6 (oi 0)] ∧ RR r181_3 [oo 7 (oi 0)] ∧ RR r181_4 [oo 8 (oM 7), oo 9 (oM 0), oo 10 (oN 9 9), oo 11 (oB .lss 3 8 10)] ∧ RR r181_6 [oo 14 (oM 0), oo 15 (oM 7), oo 16 (.index 9 (.tmp 14) (.tmp 15)), oo 17 (oM 1), oo 18 (oB .eql 5 16 17)] ∧ RR r181_7 [oo 19 (oM 5), oo 20 (oM 0), oo 21 (oM 6), oo 22 (oM 7), oo 23 (.slice 9 (.tmp 20) (some (.tmp 21)) (some (.tmp 22)) none), oo 24 (oS 60 23), oo 25 (oA 19 24 60), oo 5 (oG 25)] ∧ RR r181_8 [oo 26 (oM 7), oo 27 (oC .add 3 26 1), oo 6 (oG 27)] ∧ RR r181_5 [oo 12 (oM 7), oo 13 (oC .add 3 12 1), oo 7 (oG 13)] ∧ RI b181_0 (.seq (.seq (r181_4) (.cond (.tmp 11) (.skip) (.exit 0))) (.seq (.block 1 (.seq (r181_6) (.cond (.tmp 18) (.seq (r181_7) (r181_8)) (.skip)))) (r181_5))) ∧ KeepS T 181 b181_0 [0, 1, 5, 6, 7] ∧ RR r181_9 [oo 28 (oM 5), oo 29 (oM 0), oo 30 (oM 6), oo 31 (.slice 9 (.tmp 29) (some (.tmp 30)) none none), oo 32 (oS 60 31), oo 33 (oA 28 32 60), oo 4 (oG 33)] ∧ FinF T 181 [.tmp 4] false := by refine ⟨runR T ?_, runR T ?_, runR T ?_, runR T ?_, runR T ?_, runR T ?_, runR T ?_, runR T ?_, runR T ?_, runIc T ?_, keepS T ?_, runR T ?_, finI T (F := Tryz.f181) ?_ ?_ ?_⟩ <;> kernel_rfl
def r182_0 := nv 2 Tryz.f182
def r182_1 := nv 12 Tryz.f182
def r182_2 := nv 52 Tryz.f182
def r182_3 := nv 14 Tryz.f182
def r182_4 := nv 60 Tryz.f182
def b182_0 := nv 244 Tryz.f182
def r182_5 := nv 976 Tryz.f182
def r182_7 := nv 7824 Tryz.f182
def r182_8 := nv 31300 Tryz.f182
def r182_9 := nv 3913 Tryz.f182
def r182_6 := nv 979 Tryz.f182
def r182_10 := nv 62 Tryz.f182
theorem ent182 : Ent T 182 48 (.seq (r182_0) (.seq (.seq (r182_1) (.cond (.tmp 22) (.seq (r182_2) (.ret)) (.skip))) (.seq (r182_3) (.seq (.seq (r182_4) (.block 0 (.loop b182_0))) (.seq (r182_10) (.ret)))))) := entI T (F := Tryz.f182) (by kernel_rfl) (by kernel_rfl) (by kernel_rfl)
@[go_sem ↓] theorem run182 : RR r182_0 [oo 2 (oi 0), oo 3 (.assign (.const (.bool false)))] ∧ RR r182_1 [oo 6 (oM 0), oo 7 (.binOp .eql 9 (.tmp 6) (.const (.string ⟨#[]⟩)) 9), oo 8 (oM 7), of 9 (oM 0) 8, of 10 (oN 9 9) 8, of 11 (oC .gtr 3 10 9) 8, oo 12 (.pick (.tmp 8) (.const (.bool true)) (.tmp 11)), oo 13 (oM 12), of 14 (oM 0) 13, of 15 (oN 14 9) 13, of 16 (oC .gtr 3 15 1) 13, of 17 (oM 16) 13, ot 18 (oM 0) 17, ot 19 (.index 9 (.tmp 18) (.const (.int .i64 0))) 17, ot 20 (.binOp .eql 5 (.tmp 19) (.const (.int .u8 48)) 5) 17, of 21 (.pick (.tmp 17) (.tmp 20) (.const (.bool false))) 13, oo 22 (.pick (.tmp 13) (.const (.bool true)) (.tmp 21))] ∧ RR r182_2 [oo 2 (oi 0), oo 3 (.assign (.const (.bool false)))] ∧ RR r182_3 [oo 4 (oi 0)] ∧ RR r182_4 [oo 5 (oi 0)] ∧ RR r182_5 [oo 23 (oM 5), oo 24 (oM 0), oo 25 (oN 24 9), oo 26 (oB .lss 3 23 25)] ∧ RR r182_7 [oo 29 (oM 0), oo 30 (oM 5), oo 31 (.index 9 (.tmp 29) (.tmp 30)), oo 32 (.binOp .lss 5 (.tmp 31) (.const (.int .u8 48)) 5), oo 33 (oM 32), of 34 (oM 0) 33, of 35 (oM 5) 33, of 36 (.index 9 (.tmp 34) (.tmp 35)) 33, of 37 (.binOp .gtr 5 (.tmp 36) (.const (.int .u8 57)) 5) 33, oo 38 (.pick (.tmp 33) (.const (.bool true)) (.tmp 37))] ∧ RR r182_8 [oo 2 (oi 0), oo 3 (.assign (.const (.bool false)))] ∧ RR r182_9 [oo 39 (oM 4), oo 40 (.binOp .mul 3 (.const (.int .i64 10)) (.tmp 39) 3), oo 41 (oM 0), oo 42 (oM 5), oo 43 (.index 9 (.tmp 41) (.tmp 42)), oo 44 (.binOp .sub 5 (.tmp 43) (.const (.int .u8 48)) 5), oo 45 (.convert 5 3 (.tmp 44)), oo 46 (oB .add 3 40 45), oo 4 (oG 46)] ∧ RR r182_6 [oo 27 (oM 5), oo 28 (oC .add 3 27 1), oo 5 (oG 28)] ∧ RI b182_0 (.seq (.seq (r182_5) (.cond (.tmp 26) (.skip) (.exit 0))) (.seq (.block 1 (.seq (.seq (r182_7) (.cond (.tmp 38) (.seq (r182_8) (.ret)) (.skip))) (r182_9))) (r182_6))) ∧ KeepS T 182 b182_0 [0, 4, 5] ∧ RR r182_10 [oo 47 (oM 4), oo 2 (oG 47), oo 3 (.assign (.const (.bool true)))] ∧ FinF T 182 [.tmp 2, .tmp 3] false := by refine ⟨runR T ?_, runR T ?_, runR T ?_, runR T ?_, runR T ?_, runR T ?_, runR T ?_, runR T ?_, runR T ?_, runR T ?_, runIc T ?_, keepS T ?_, runR T ?_, finI T (F := Tryz.f182) ?_ ?_ ?_⟩ <;> kernel_rfl
@[go_sem] theorem fct226 : Fct T 226 false (some ixV) false := ⟨by kernel_rfl, by kernel_rfl, by kernel_rfl⟩
@[go_sem] theorem res226 : Res1 T 226 3 := res1 T (F := Tryz.f226) (by kernel_rfl) (by kernel_rfl)
def b225_0 := nv 4 Tryz.f225
def r225_0 := nv 16 Tryz.f225
def r225_1 := nv 36 Tryz.f225
def r225_2 := nv 148 Tryz.f225
def r225_3 := nv 298 Tryz.f225
def r225_4 := nv 598 Tryz.f225
def r225_5 := nv 599 Tryz.f225
def r225_6 := nv 150 Tryz.f225
theorem ent225 : Ent T 225 25 (.block 0 (.loop b225_0)) := entI T (F := Tryz.f225) (by kernel_rfl) (by kernel_rfl) (by kernel_rfl)
@[go_sem ↓] theorem run225 : RR r225_0 [oo 5 (oL 9 1), oo 6 (oN 5 9), oo 7 (oC .gtr 3 6 0)] ∧ RR r225_1 [oo 3 (.assign (.const (.string ⟨#[]⟩)))] ∧ RR r225_2 [oo 8 (oL 9 1), oo 9 (.call ⟨.value (.func 226), #[.tmp 8, .const (.int .u8 10)], #[9, 5]⟩), oo 4 (oG 9)] ∧ RR r225_3 [oo 10 (oM 4), oo 11 (oC .geq 3 10 0)] ∧ RD r225_4 225 [oo 12 (oL 9 1), oo 13 (oM 4), oo 14 (oC .add 3 13 1), oo 15 (.slice 9 (.tmp 12) none (some (.tmp 14)) none), oo 16 (oL 9 1), oo 17 (oM 4), oo 18 (oC .add 3 17 1), oo 19 (.slice 9 (.tmp 16) (some (.tmp 18)) none none), oo 3 (oG 15), ow 9 1 19] [(0, 1), (0, 2), (0, 4), (1, 4), (2, 4), (3, 4), (0, 5), (1, 5), (2, 5), (3, 5), (4, 5), (0, 6), (1, 6), (2, 6), (3, 6), (4, 6), (0, 7), (1, 7), (2, 7), (3, 7), (4, 8), (5, 8), (6, 8), (7, 8)] ∧ RR r225_5 [oo 20 (oL 9 1), oo 3 (oG 20), ⟨none, .store 9 (.tmp 1) (.const (.string ⟨#[]⟩)), none⟩] ∧ RR r225_6 [oo 21 (oM 0), oo 22 (oM 3), oo 23 (.call ⟨.value (.tmp 21), #[.tmp 22], #[9]⟩), oo 24 (.unOp .not 4 (.tmp 23))] ∧ RI b225_0 (.seq (.seq (r225_0) (.cond (.tmp 7) (.skip) (.exit 0))) (.block 1 (.seq (r225_1) (.seq (.seq (r225_2) (.seq (r225_3) (.cond (.tmp 11) (r225_4) (r225_5)))) (.seq (r225_6) (.cond (.tmp 24) (.ret) (.skip))))))) ∧ KeepS T 225 b225_0 [0, 1] ∧ FinF T 225 [] true := by refine ⟨runR T ?_, runR T ?_, runR T ?_, runR T ?_, runD T (id := 4) ?_ ?_, runR T ?_, runR T ?_, runIc T ?_, keepS T ?_, finI T (F := Tryz.f225) ?_ ?_ ?_⟩ <;> kernel_rfl
@[go_sem] theorem fr243 : Fct T 243 false none false ∧ Res1 T 243 4 := by refine ⟨⟨?_, ?_, ?_⟩, res1 T (F := Tryz.f243) ?_ ?_⟩ <;> kernel_rfl
def r227_0 := nv 2 Tryz.f227
def r227_1 := nv 12 Tryz.f227
def r227_2 := nv 52 Tryz.f227
def r227_3 := nv 14 Tryz.f227
theorem ent227 : Ent T 227 18 (.seq (r227_0) (.seq (.seq (r227_1) (.cond (.tmp 9) (.seq (r227_2) (.ret)) (.skip))) (.seq (r227_3) (.ret)))) := entI T (F := Tryz.f227) (by kernel_rfl) (by kernel_rfl) (by kernel_rfl)
@[go_sem ↓] theorem run227 : RR r227_0 [oo 4 (.assign (.const (.string ⟨#[]⟩))), oo 5 (.assign (.const (.bool false)))] ∧ RR r227_1 [oo 6 (oM 0), oo 7 (oM 1), oo 8 (o2 243 6 7 9 9), oo 9 (.unOp .not 4 (.tmp 8))] ∧ RR r227_2 [oo 10 (oM 0), oo 4 (oG 10), oo 5 (.assign (.const (.bool false)))] ∧ RR r227_3 [oo 11 (oM 0), oo 12 (oM 0), oo 13 (oN 12 9), oo 14 (oM 1), oo 15 (oN 14 9), oo 16 (oB .sub 3 13 15), oo 17 (.slice 9 (.tmp 11) none (some (.tmp 16)) none), oo 4 (oG 17), oo 5 (.assign (.const (.bool true)))] ∧ FinF T 227 [.tmp 4, .tmp 5] false := by refine ⟨runR T ?_, runR T ?_, runR T ?_, runR T ?_, finI T (F := Tryz.f227) ?_ ?_ ?_⟩ <;> kernel_rfl
@[go_sem] theorem fr244 : Fct T 244 false none false ∧ Res1 T 244 60 := by refine ⟨⟨?_, ?_, ?_⟩, res1 T (F := Tryz.f244) ?_ ?_⟩ <;> kernel_rfl
@[go_sem] theorem fct245 : Fct T 245 false (some ct1V) false := ⟨by kernel_rfl, by kernel_rfl, by kernel_rfl⟩
@[go_sem] theorem res245 : Res1 T 245 3 := res1 T (F := Tryz.f245) (by kernel_rfl) (by kernel_rfl)
@[go_sem] theorem fct246 : Fct T 246 false (some ix1V) false := ⟨by kernel_rfl, by kernel_rfl, by kernel_rfl⟩
@[go_sem] theorem res246 : Res1 T 246 3 := res1 T (F := Tryz.f246) (by kernel_rfl) (by kernel_rfl)
def r228_0 := nv 2 Tryz.f228
def r228_1 := nv 12 Tryz.f228
def r228_2 := nv 52 Tryz.f228
def r228_3 := nv 28 Tryz.f228
def r228_4 := nv 116 Tryz.f228
def r228_5 := nv 60 Tryz.f228
def r228_6 := nv 122 Tryz.f228
def r228_7 := nv 62 Tryz.f228
def r228_8 := nv 126 Tryz.f228
def r228_9 := nv 254 Tryz.f228
def r228_10 := nv 510 Tryz.f228
def b228_0 := nv 4088 Tryz.f228
def r228_11 := nv 16352 Tryz.f228
def r228_12 := nv 32708 Tryz.f228
def r228_13 := nv 130836 Tryz.f228
def r228_14 := nv 130838 Tryz.f228
def r228_15 := nv 261678 Tryz.f228
def r228_16 := nv 261679 Tryz.f228
def r228_17 := nv 2046 Tryz.f228
def r228_18 := nv 4094 Tryz.f228
theorem ent228 : Ent T 228 66 (.seq (r228_0) (.seq (.seq (r228_1) (.cond (.tmp 13) (.seq (r228_2) (.ret)) (.skip))) (.seq (.seq (r228_3) (.cond (.tmp 15) (.seq (r228_4) (.ret)) (.skip))) (.seq (.seq (r228_5) (.cond (.tmp 20) (r228_6) (.skip))) (.seq (r228_7) (.seq (r228_8) (.seq (r228_9) (.seq (r228_10) (.seq (.block 0 (.loop b228_0)) (.seq (r228_17) (.seq (r228_18) (.ret)))))))))))) := entI T (F := Tryz.f228) (by kernel_rfl) (by kernel_rfl) (by kernel_rfl)
@[go_sem ↓] theorem run228 : RR r228_0 [oo 8 on] ∧ RR r228_1 [oo 12 (oM 3), oo 13 (oC .eql 3 12 0)] ∧ RR r228_2 [oo 8 on] ∧ RR r228_3 [oo 14 (oM 1), oo 15 (.binOp .eql 9 (.tmp 14) (.const (.string ⟨#[]⟩)) 9)] ∧ RR r228_4 [oo 16 (oM 0), oo 17 (oM 3), oo 18 (o2 244 16 17 9 3), oo 8 (oG 18)] ∧ RR r228_5 [oo 19 (oM 3), oo 20 (oC .lss 3 19 0)] ∧ RR r228_6 [oo 21 (oM 0), oo 22 (oM 1), oo 23 (o2 245 21 22 9 9), oo 24 (oC .add 3 23 1), oo 3 (oG 24)] ∧ RR r228_7 [oo 25 (oM 3), oo 26 (oM 0), oo 27 (oN 26 9), oo 28 (oC .add 3 27 1), oo 29 (.call ⟨.builtin .min, #[.tmp 25, .tmp 28], #[3, 3]⟩), oo 3 (oG 29)] ∧ RR r228_8 [oo 30 (oM 3), oo 31 (.makeSlice 60 (.tmp 30) (.tmp 30)), oo 9 (oG 31)] ∧ RR r228_9 [oo 32 (oM 3), oo 33 (oC .sub 3 32 1), oo 3 (oG 33)] ∧ RR r228_10 [oo 10 (oi 0)] ∧ RR r228_11 [oo 34 (oM 10), oo 35 (oM 3), oo 36 (oB .lss 3 34 35)] ∧ RR r228_12 [oo 37 (oM 0), oo 38 (oM 1), oo 39 (o2 246 37 38 9 9), oo 11 (oG 39)] ∧ RR r228_13 [oo 40 (oM 11), oo 41 (oC .lss 3 40 0)] ∧ RR r228_14 [oo 42 (oM 9), oo 43 (oM 10), oo 44 (oM 0), oo 45 (oM 11), oo 46 (oM 2), oo 47 (oB .add 3 45 46), oo 48 (.slice 9 (.tmp 44) none (some (.tmp 47)) none), oo 49 (oI 60 42 43), ow 9 49 48] ∧ RR r228_15 [oo 50 (oM 0), oo 51 (oM 11), oo 52 (oM 1), oo 53 (oN 52 9), oo 54 (oB .add 3 51 53), oo 55 (.slice 9 (.tmp 50) (some (.tmp 54)) none none), oo 0 (oG 55)] ∧ RR r228_16 [oo 56 (oM 10), oo 57 (oC .add 3 56 1), oo 10 (oG 57)] ∧ RI b228_0 (.seq (.seq (r228_11) (.cond (.tmp 36) (.skip) (.exit 0))) (.block 1 (.seq (r228_12) (.seq (.seq (r228_13) (.cond (.tmp 41) (.exit 0) (.skip))) (.seq (r228_14) (.seq (r228_15) (r228_16))))))) ∧ KeepS T 228 b228_0 [0, 1, 2, 3, 9, 10] ∧ RR r228_17 [oo 58 (oM 9), oo 59 (oM 10), oo 60 (oM 0), oo 61 (oI 60 58 59), ow 9 61 60] ∧ RR r228_18 [oo 62 (oM 9), oo 63 (oM 10), oo 64 (oC .add 3 63 1), oo 65 (.slice 60 (.tmp 62) none (some (.tmp 64)) none), oo 8 (oG 65)] ∧ FinF T 228 [.tmp 8] false := by refine ⟨runR T ?_, runR T ?_, runR T ?_, runR T ?_, runR T ?_, runR T ?_, runR T ?_, runR T ?_, runR T ?_, runR T ?_, runR T ?_, runR T ?_, runR T ?_, runR T ?_, runR T ?_, runR T ?_, runR T ?_, runIc T ?_, keepS T ?_, runR T ?_, runR T ?_, finI T (F := Tryz.f228) ?_ ?_ ?_⟩ <;> kernel_rfl
def r243_0 := nv 2 Tryz.f243
def r243_1 := nv 6 Tryz.f243
theorem ent243 : Ent T 243 21 (.seq (r243_0) (.seq (r243_1) (.ret))) := entI T (F := Tryz.f243) (by kernel_rfl) (by kernel_rfl) (by kernel_rfl)
@[go_sem ↓] theorem run243 : RR r243_0 [oo 4 (.assign (.const (.bool false)))] ∧ RR r243_1 [oo 5 (oM 0), oo 6 (oN 5 9), oo 7 (oM 1), oo 8 (oN 7 9), oo 9 (oB .geq 3 6 8), oo 10 (oM 9), ot 11 (oM 0) 10, ot 12 (oM 0) 10, ot 13 (oN 12 9) 10, ot 14 (oM 1) 10, ot 15 (oN 14 9) 10, ot 16 (oB .sub 3 13 15) 10, ot 17 (.slice 9 (.tmp 11) (some (.tmp 16)) none none) 10, ot 18 (oM 1) 10, ot 19 (oB .eql 9 17 18) 10, oo 20 (.pick (.tmp 10) (.tmp 19) (.const (.bool false))), oo 4 (oG 20)] ∧ FinF T 243 [.tmp 4] false := by refine ⟨runR T ?_, runR T ?_, finI T (F := Tryz.f243) ?_ ?_ ?_⟩ <;> kernel_rfl
end Go.Den.FaT
end
