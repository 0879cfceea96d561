import Derived.Test.YtifljcjddphpjaaGreatDoorFaTab
import Derived.Test.YtifljcjddphpjaaGreatDoorZR
import Derived.Test.YtifljcjddphpjaaGreatDoorFaTi
set_option linter.all false
set_option maxHeartbeats 8000000
set_option maxRecDepth 100000
noncomputable section
namespace Go.Den.FaT
open Go Go.Proofs Go.Den
abbrev RR (c : Code) (os : List SO) : Prop := RunR T c os
abbrev RD (c : Code) (f : Nat) (os : List SO) (ps : List (Nat × Nat)) : Prop := RunD T c f os ps
abbrev RI (r c : Code) : Prop := RunIc T r c
@[go_sem] theorem fr16 : Fct T 16 false none false ∧ Res1 T 16 4 := by refine ⟨⟨?_, ?_, ?_⟩, res1 T (F := Tryz.f16) ?_ ?_⟩ <;> kernel_rfl
@[go_sem] theorem fr17 : Fct T 17 false none false ∧ Res2 T 17 28 29 [] := by refine ⟨⟨?_, ?_, ?_⟩, res2 T (F := Tryz.f17) ?_ ?_⟩ <;> kernel_rfl
@[go_sem] theorem fr18 : Fct T 18 false none false ∧ Res1 T 18 34 := by refine ⟨⟨?_, ?_, ?_⟩, res1 T (F := Tryz.f18) ?_ ?_⟩ <;> kernel_rfl
@[go_sem] theorem fr19 : Fct T 19 false none false ∧ Res2 T 19 22 29 [] := by refine ⟨⟨?_, ?_, ?_⟩, res2 T (F := Tryz.f19) ?_ ?_⟩ <;> kernel_rfl
@[go_sem] theorem fr20 : Fct T 20 false none false ∧ Res1 T 20 3 := by refine ⟨⟨?_, ?_, ?_⟩, res1 T (F := Tryz.f20) ?_ ?_⟩ <;> kernel_rfl
@[go_sem] theorem fr23 : Fct T 23 false none false ∧ Res1 T 23 29 := by refine ⟨⟨?_, ?_, ?_⟩, res1 T (F := Tryz.f23) ?_ ?_⟩ <;> kernel_rfl
@[go_sem] theorem fr106 : Fct T 106 false none false ∧ Res1 T 106 28 := by refine ⟨⟨?_, ?_, ?_⟩, res1 T (F := Tryz.f106) ?_ ?_⟩ <;> kernel_rfl
def r17_0 := nv 2 Tryz.f17
def r17_1 := nv 12 Tryz.f17
def r17_2 := nv 26 Tryz.f17
def r17_3 := nv 108 Tryz.f17
def r17_4 := nv 14 Tryz.f17
theorem ent17 : Ent T 17 12 (.seq (r17_0) (.seq (.seq (r17_1) (.seq (r17_2) (.cond (.tmp 8) (.seq (r17_3) (.ret)) (.skip)))) (.seq (r17_4) (.ret)))) := entI T (F := Tryz.f17) (by kernel_rfl) (by kernel_rfl) (by kernel_rfl)
@[go_sem ↓] theorem run17 : RR r17_0 [oo 1 (.box 34 (.tmp 0)), oo 2 on, oo 3 (oi 0)] ∧ RR r17_1 [oo 5 (oL 34 1), oo 6 (o1 23 5 34), oo 4 (oG 6)] ∧ RR r17_2 [oo 7 (oM 4), oo 8 (oC .neq 29 7 0)] ∧ RR r17_3 [oo 9 (oM 4), oo 2 on, oo 3 (oG 9)] ∧ RR r17_4 [oo 10 (oL 34 1), oo 11 (o1 106 10 34), oo 2 (oG 11), oo 3 (oi 0)] ∧ FinF T 17 [.tmp 2, .tmp 3] false := by refine ⟨runR T ?_, runR T ?_, runR T ?_, runR T ?_, runR T ?_, finI T (F := Tryz.f17) ?_ ?_ ?_⟩ <;> kernel_rfl
@[go_sem] theorem fr88 : Fct T 88 false none false ∧ Res1 T 88 25 := by refine ⟨⟨?_, ?_, ?_⟩, res1 T (F := Tryz.f88) ?_ ?_⟩ <;> kernel_rfl
def r18_0 := nv 2 Tryz.f18
def r18_1 := nv 6 Tryz.f18
def r18_2 := nv 14 Tryz.f18
def r18_3 := nv 60 Tryz.f18
def b18_0 := nv 244 Tryz.f18
def r18_4 := nv 488 Tryz.f18
def r18_5 := nv 7832 Tryz.f18
def r18_6 := nv 7833 Tryz.f18
def r18_7 := nv 1959 Tryz.f18
def r18_8 := nv 62 Tryz.f18
theorem ent18 : Ent T 18 28 (.seq (r18_0) (.seq (r18_1) (.seq (r18_2) (.seq (.seq (r18_3) (.block 0 (.loop b18_0))) (.seq (r18_8) (.ret)))))) := entI T (F := Tryz.f18) (by kernel_rfl) (by kernel_rfl) (by kernel_rfl)
@[go_sem ↓] theorem run18 : RR r18_0 [oo 1 (.box 25 (.tmp 0)), oo 2 (.alloc 34)] ∧ RR r18_1 [oo 6 (oL 25 1), oo 7 (o1 88 6 25), ow 25 1 7] ∧ RR r18_2 [oo 8 (oF 25 1 0), oo 9 (oL 22 8), oo 10 (oF 25 1 1), oo 11 (oL 3 10), oo 12 (.build 34 #[(0, .tmp 9), (1, .tmp 11)]), oo 3 (.alloc 34), ow 34 3 12] ∧ RR r18_3 [oo 13 (oF 25 1 2), oo 14 (oL 23 13), oo 15 (oN 14 23), oo 16 (.move (.const (.int .i64 0)))] ∧ RR r18_4 [oo 17 (oB .lss 3 16 15)] ∧ RR r18_5 [oo 18 (oI 23 14 16), oo 19 (oL 140 18), oo 5 (.alloc 140), ow 140 5 19] ∧ RR r18_6 [oo 20 (oF 34 3 2), oo 21 (oL 32 20), oo 22 (oL 140 5), oo 23 (oS 32 22), oo 24 (oA 21 23 32), oo 25 (oF 34 3 2), ow 32 25 24] ∧ RR r18_7 [oo 26 (oC .add 3 16 1), oo 16 (oM 26)] ∧ RI b18_0 (.seq (r18_4) (.seq (.cond (.tmp 17) (.skip) (.exit 0)) (.seq (.block 1 (.seq (r18_5) (r18_6))) (r18_7)))) ∧ KeepS T 18 b18_0 [2, 3, 14, 15, 16] ∧ RR r18_8 [oo 27 (oL 34 3), ow 34 2 27] ∧ FinF T 18 [.cell 2 34] false := by refine ⟨runR T ?_, runR T ?_, runR T ?_, runR T ?_, runR T ?_, runR T ?_, runR T ?_, runR T ?_, runIc T ?_, keepS T ?_, runR T ?_, finI T (F := Tryz.f18) ?_ ?_ ?_⟩ <;> kernel_rfl
@[go_sem] theorem fr107 : Fct T 107 false none false ∧ Res1 T 107 22 := by refine ⟨⟨?_, ?_, ?_⟩, res1 T (F := Tryz.f107) ?_ ?_⟩ <;> kernel_rfl
def r19_0 := nv 2 Tryz.f19
def r19_1 := nv 12 Tryz.f19
def r19_2 := nv 26 Tryz.f19
def r19_3 := nv 108 Tryz.f19
def r19_4 := nv 14 Tryz.f19
theorem ent19 : Ent T 19 12 (.seq (r19_0) (.seq (.seq (r19_1) (.seq (r19_2) (.cond (.tmp 8) (.seq (r19_3) (.ret)) (.skip)))) (.seq (r19_4) (.ret)))) := entI T (F := Tryz.f19) (by kernel_rfl) (by kernel_rfl) (by kernel_rfl)
@[go_sem ↓] theorem run19 : RR r19_0 [oo 1 (.box 34 (.tmp 0)), oo 2 on, oo 3 (oi 0)] ∧ RR r19_1 [oo 5 (oL 34 1), oo 6 (o1 23 5 34), oo 4 (oG 6)] ∧ RR r19_2 [oo 7 (oM 4), oo 8 (oC .neq 29 7 0)] ∧ RR r19_3 [oo 9 (oM 4), oo 2 on, oo 3 (oG 9)] ∧ RR r19_4 [oo 10 (oL 34 1), oo 11 (o1 107 10 34), oo 2 (oG 11), oo 3 (oi 0)] ∧ FinF T 19 [.tmp 2, .tmp 3] false := by refine ⟨runR T ?_, runR T ?_, runR T ?_, runR T ?_, runR T ?_, finI T (F := Tryz.f19) ?_ ?_ ?_⟩ <;> kernel_rfl
@[go_sem] theorem fr39 : Fct T 39 false none false ∧ Res1 T 39 3 := by refine ⟨⟨?_, ?_, ?_⟩, res1 T (F := Tryz.f39) ?_ ?_⟩ <;> kernel_rfl
@[go_sem] theorem fr108 : Fct T 108 false none false ∧ Res1 T 108 3 := by refine ⟨⟨?_, ?_, ?_⟩, res1 T (F := Tryz.f108) ?_ ?_⟩ <;> kernel_rfl
@[go_sem] theorem fr109 : Fct T 109 false none false ∧ Res1 T 109 3 := by refine ⟨⟨?_, ?_, ?_⟩, res1 T (F := Tryz.f109) ?_ ?_⟩ <;> kernel_rfl
@[go_sem] theorem fr110 : Fct T 110 false none false ∧ Res1 T 110 3 := by refine ⟨⟨?_, ?_, ?_⟩, res1 T (F := Tryz.f110) ?_ ?_⟩ <;> kernel_rfl
def r20_0 := nv 2 Tryz.f20
def r20_1 := nv 12 Tryz.f20
def r20_2 := nv 26 Tryz.f20
def r20_3 := nv 108 Tryz.f20
def r20_4 := nv 14 Tryz.f20
def r20_5 := nv 60 Tryz.f20
def b20_0 := nv 244 Tryz.f20
def r20_6 := nv 976 Tryz.f20
def r20_8 := nv 3912 Tryz.f20
def r20_9 := nv 15652 Tryz.f20
def r20_10 := nv 31306 Tryz.f20
def r20_11 := nv 125228 Tryz.f20
def r20_12 := nv 15654 Tryz.f20
def b20_1 := nv 62620 Tryz.f20
def r20_13 := nv 250480 Tryz.f20
def r20_15 := nv 1001928 Tryz.f20
def r20_16 := nv 2003858 Tryz.f20
def r20_17 := nv 8015436 Tryz.f20
def r20_14 := nv 250483 Tryz.f20
def r20_7 := nv 979 Tryz.f20
def r20_18 := nv 124 Tryz.f20
def r20_19 := nv 250 Tryz.f20
def r20_20 := nv 1004 Tryz.f20
def r20_21 := nv 252 Tryz.f20
def b20_2 := nv 1012 Tryz.f20
def r20_22 := nv 4048 Tryz.f20
def r20_24 := nv 16200 Tryz.f20
def r20_25 := nv 32402 Tryz.f20
def r20_26 := nv 129612 Tryz.f20
def r20_23 := nv 4051 Tryz.f20
def r20_27 := nv 254 Tryz.f20
theorem ent20 : Ent T 20 121 (.seq (r20_0) (.seq (.seq (r20_1) (.seq (r20_2) (.cond (.tmp 26) (.seq (r20_3) (.ret)) (.skip)))) (.seq (r20_4) (.seq (.seq (r20_5) (.block 0 (.loop b20_0))) (.seq (.seq (r20_18) (.seq (r20_19) (.cond (.tmp 86) (.seq (r20_20) (.ret)) (.skip)))) (.seq (.seq (r20_21) (.block 4 (.loop b20_2))) (.seq (r20_27) (.ret)))))))) := entI T (F := Tryz.f20) (by kernel_rfl) (by kernel_rfl) (by kernel_rfl)
@[go_sem ↓] theorem run20 : RR r20_0 [oo 1 (.box 25 (.tmp 0)), oo 2 (oi 0)] ∧ RD r20_1 20 [oo 13 (oF 25 1 0), oo 14 (oL 22 13), oo 15 (oN 14 22), oo 16 (oC .eql 3 15 0), oo 17 (.call ⟨.value (.func 39), #[.tmp 16, .const (.int .i64 12)], #[4, 3]⟩), oo 18 (oF 25 1 0), oo 19 (oL 22 18), oo 20 (oN 19 22), oo 21 (oC .gtr 3 20 8), oo 22 (.call ⟨.value (.func 39), #[.tmp 21, .const (.int .i64 5)], #[4, 3]⟩), oo 23 (.buildSlice 28 2 #[(0, .tmp 17), (1, .tmp 22)]), oo 24 (o1 108 23 28), oo 3 (oG 24)] [(0, 5), (1, 5), (2, 5), (3, 5), (4, 5), (0, 6), (1, 6), (2, 6), (3, 6), (4, 6), (0, 7), (1, 7), (2, 7), (3, 7), (4, 7), (0, 8), (1, 8), (2, 8), (3, 8), (4, 8)] ∧ RR r20_2 [oo 25 (oM 3), oo 26 (oC .neq 3 25 0)] ∧ RR r20_3 [oo 27 (oM 3), oo 2 (oG 27)] ∧ RR r20_4 [oo 28 (oF 25 1 0), oo 29 (oL 22 28), oo 30 (.indexAddr 22 (.tmp 29) (.const (.int .i64 0))), oo 31 (oL 28 30), oo 32 (oN 31 28), oo 4 (oG 32)] ∧ RR r20_5 [oo 5 (oi 0)] ∧ RR r20_6 [oo 33 (oM 5), oo 34 (oF 25 1 0), oo 35 (oL 22 34), oo 36 (oN 35 22), oo 37 (oB .lss 3 33 36)] ∧ RR r20_8 [oo 40 (oF 25 1 0), oo 41 (oL 22 40), oo 42 (oM 5), oo 43 (oI 22 41 42), oo 44 (oL 28 43), oo 6 (oG 44)] ∧ RR r20_9 [oo 45 (oM 6), oo 46 (oN 45 28), oo 47 (oC .eql 3 46 0), oo 48 (.call ⟨.value (.func 39), #[.tmp 47, .const (.int .i64 12)], #[4, 3]⟩), oo 49 (oM 6), oo 50 (oN 49 28), oo 51 (oC .gtr 3 50 8), oo 52 (.call ⟨.value (.func 39), #[.tmp 51, .const (.int .i64 5)], #[4, 3]⟩), oo 53 (oM 6), oo 54 (oN 53 28), oo 55 (oM 4), oo 56 (oB .neq 3 54 55), oo 57 (.call ⟨.value (.func 39), #[.tmp 56, .const (.int .i64 2)], #[4, 3]⟩), oo 58 (.buildSlice 28 3 #[(0, .tmp 48), (1, .tmp 52), (2, .tmp 57)]), oo 59 (o1 108 58 28), oo 7 (oG 59)] ∧ RR r20_10 [oo 60 (oM 7), oo 61 (oC .neq 3 60 0)] ∧ RR r20_11 [oo 62 (oM 7), oo 2 (oG 62)] ∧ RR r20_12 [oo 8 (oi 0)] ∧ RR r20_13 [oo 63 (oM 8), oo 64 (oM 6), oo 65 (oN 64 28), oo 66 (oB .lss 3 63 65)] ∧ RR r20_15 [oo 69 (oM 6), oo 70 (oM 8), oo 71 (oI 28 69 70), oo 72 (oL 3 71), oo 73 (o1 109 72 3), oo 9 (oG 73)] ∧ RR r20_16 [oo 74 (oM 9), oo 75 (oC .neq 3 74 0)] ∧ RR r20_17 [oo 76 (oM 9), oo 2 (oG 76)] ∧ RR r20_14 [oo 67 (oM 8), oo 68 (oC .add 3 67 1), oo 8 (oG 68)] ∧ RI b20_1 (.seq (.seq (r20_13) (.cond (.tmp 66) (.skip) (.exit 2))) (.seq (.block 3 (.seq (r20_15) (.seq (r20_16) (.cond (.tmp 75) (.seq (r20_17) (.ret)) (.skip))))) (r20_14))) ∧ KeepS T 20 b20_1 [1, 4, 5, 6, 8] ∧ RR r20_7 [oo 38 (oM 5), oo 39 (oC .add 3 38 1), oo 5 (oG 39)] ∧ RI b20_0 (.seq (.seq (r20_6) (.cond (.tmp 37) (.skip) (.exit 0))) (.seq (.block 1 (.seq (r20_8) (.seq (.seq (r20_9) (.seq (r20_10) (.cond (.tmp 61) (.seq (r20_11) (.ret)) (.skip)))) (.seq (r20_12) (.block 2 (.loop b20_1)))))) (r20_7))) ∧ KeepS T 20 b20_0 [1, 4, 5] ∧ RD r20_18 20 [oo 77 (oF 25 1 1), oo 78 (oL 3 77), oo 79 (o1 109 78 3), oo 80 (oF 25 1 2), oo 81 (oL 23 80), oo 82 (o1 110 81 23), oo 83 (.buildSlice 28 2 #[(0, .tmp 79), (1, .tmp 82)]), oo 84 (o1 108 83 28), oo 10 (oG 84)] [(0, 3), (1, 3), (2, 3), (0, 4), (1, 4), (2, 4)] ∧ RR r20_19 [oo 85 (oM 10), oo 86 (oC .neq 3 85 0)] ∧ RR r20_20 [oo 87 (oM 10), oo 2 (oG 87)] ∧ RR r20_21 [oo 11 (oi 0)] ∧ RR r20_22 [oo 88 (oM 11), oo 89 (oF 25 1 2), oo 90 (oL 23 89), oo 91 (oN 90 23), oo 92 (oB .lss 3 88 91)] ∧ RD r20_24 20 [oo 95 (oF 25 1 2), oo 96 (oL 23 95), oo 97 (oM 11), oo 98 (oI 23 96 97), oo 99 (oF 140 98 1), oo 100 (oL 3 99), oo 101 (oF 25 1 0), oo 102 (oL 22 101), oo 103 (oN 102 22), oo 104 (oB .geq 3 100 103), oo 105 (.call ⟨.value (.func 39), #[.tmp 104, .const (.int .i64 10)], #[4, 3]⟩), oo 106 (oF 25 1 2), oo 107 (oL 23 106), oo 108 (oM 11), oo 109 (oI 23 107 108), oo 110 (oF 140 109 2), oo 111 (oL 72 110), oo 112 (oN 111 72), oo 113 (oM 4), oo 114 (oB .neq 3 112 113), oo 115 (.call ⟨.value (.func 39), #[.tmp 114, .const (.int .i64 2)], #[4, 3]⟩), oo 116 (.buildSlice 28 2 #[(0, .tmp 105), (1, .tmp 115)]), oo 117 (o1 108 116 28), oo 12 (oG 117)] [(0, 2), (1, 2), (0, 6), (1, 6), (2, 6), (3, 6), (4, 6), (5, 6), (0, 7), (1, 7), (2, 7), (3, 7), (4, 7), (5, 7), (0, 8), (1, 8), (2, 8), (3, 8), (4, 8), (5, 8), (0, 11), (1, 11), (2, 11), (3, 11), (4, 11), (5, 11), (6, 11), (7, 11), (8, 11), (9, 11), (10, 11), (0, 12), (1, 12), (2, 12), (3, 12), (4, 12), (5, 12), (6, 12), (7, 12), (8, 12), (9, 12), (10, 12), (0, 13), (1, 13), (2, 13), (3, 13), (4, 13), (5, 13), (6, 13), (7, 13), (8, 13), (9, 13), (10, 13), (11, 13), (12, 13), (0, 14), (1, 14), (2, 14), (3, 14), (4, 14), (5, 14), (6, 14), (7, 14), (8, 14), (9, 14), (10, 14), (0, 15), (1, 15), (2, 15), (3, 15), (4, 15), (5, 15), (6, 15), (7, 15), (8, 15), (9, 15), (10, 15), (0, 16), (1, 16), (2, 16), (3, 16), (4, 16), (5, 16), (6, 16), (7, 16), (8, 16), (9, 16), (10, 16), (0, 17), (1, 17), (2, 17), (3, 17), (4, 17), (5, 17), (6, 17), (7, 17), (8, 17), (9, 17), (10, 17), (0, 18), (1, 18), (2, 18), (3, 18), (4, 18), (5, 18), (6, 18), (7, 18), (8, 18), (9, 18), (10, 18), (11, 18), (12, 18), (13, 18), (14, 18), (15, 18), (16, 18), (17, 18), (0, 19), (1, 19), (2, 19), (3, 19), (4, 19), (5, 19), (6, 19), (7, 19), (8, 19), (9, 19), (10, 19)] ∧ RR r20_25 [oo 118 (oM 12), oo 119 (oC .neq 3 118 0)] ∧ RR r20_26 [oo 120 (oM 12), oo 2 (oG 120)] ∧ RR r20_23 [oo 93 (oM 11), oo 94 (oC .add 3 93 1), oo 11 (oG 94)] ∧ RI b20_2 (.seq (.seq (r20_22) (.cond (.tmp 92) (.skip) (.exit 4))) (.seq (.block 5 (.seq (r20_24) (.seq (r20_25) (.cond (.tmp 119) (.seq (r20_26) (.ret)) (.skip))))) (r20_23))) ∧ KeepS T 20 b20_2 [1, 4, 11] ∧ RR r20_27 [oo 2 (oi 0)] ∧ FinF T 20 [.tmp 2] false := by refine ⟨runR T ?_, runD T (id := 1) ?_ ?_, runR T ?_, runR T ?_, runR T ?_, runR T ?_, runR T ?_, runR T ?_, runR T ?_, runR T ?_, runR T ?_, runR T ?_, runR T ?_, runR T ?_, runR T ?_, runR T ?_, runR T ?_, runIc T ?_, keepS T ?_, runR T ?_, runIc T ?_, keepS T ?_, runD T (id := 18) ?_ ?_, runR T ?_, runR T ?_, runR T ?_, runR T ?_, runD T (id := 24) ?_ ?_, runR T ?_, runR T ?_, runR T ?_, runIc T ?_, keepS T ?_, runR T ?_, finI T (F := Tryz.f20) ?_ ?_ ?_⟩ <;> kernel_rfl
@[go_sem] theorem fr112 : Fct T 112 false none false ∧ Res1 T 112 29 := by refine ⟨⟨?_, ?_, ?_⟩, res1 T (F := Tryz.f112) ?_ ?_⟩ <;> kernel_rfl
@[go_sem] theorem fr113 : Fct T 113 false none false ∧ Res1 T 113 29 := by refine ⟨⟨?_, ?_, ?_⟩, res1 T (F := Tryz.f113) ?_ ?_⟩ <;> kernel_rfl
@[go_sem] theorem fr114 : Fct T 114 false none false ∧ Res1 T 114 29 := by refine ⟨⟨?_, ?_, ?_⟩, res1 T (F := Tryz.f114) ?_ ?_⟩ <;> kernel_rfl
@[go_sem] theorem fr117 : Fct T 117 false none false ∧ Res1 T 117 29 := by refine ⟨⟨?_, ?_, ?_⟩, res1 T (F := Tryz.f117) ?_ ?_⟩ <;> kernel_rfl
@[go_sem] theorem fr118 : Fct T 118 false none false ∧ Res1 T 118 29 := by refine ⟨⟨?_, ?_, ?_⟩, res1 T (F := Tryz.f118) ?_ ?_⟩ <;> kernel_rfl
@[go_sem] theorem fr119 : Fct T 119 false none false ∧ Res1 T 119 187 := by refine ⟨⟨?_, ?_, ?_⟩, res1 T (F := Tryz.f119) ?_ ?_⟩ <;> kernel_rfl
@[go_sem] theorem fr120 : Fct T 120 false none false ∧ Res1 T 120 29 := by refine ⟨⟨?_, ?_, ?_⟩, res1 T (F := Tryz.f120) ?_ ?_⟩ <;> kernel_rfl
@[go_sem] theorem fr121 : Fct T 121 false none false ∧ Res1 T 121 187 := by refine ⟨⟨?_, ?_, ?_⟩, res1 T (F := Tryz.f121) ?_ ?_⟩ <;> kernel_rfl
def r23_0 := nv 2 Tryz.f23
def r23_1 := nv 12 Tryz.f23
def r23_2 := nv 26 Tryz.f23
def r23_3 := nv 108 Tryz.f23
def r23_4 := nv 14 Tryz.f23
def r23_5 := nv 30 Tryz.f23
def r23_6 := nv 62 Tryz.f23
theorem ent23 : Ent T 23 33 (.seq (r23_0) (.seq (.seq (r23_1) (.seq (r23_2) (.cond (.tmp 11) (.seq (r23_3) (.ret)) (.skip)))) (.seq (r23_4) (.seq (r23_5) (.seq (r23_6) (.ret)))))) := entI T (F := Tryz.f23) (by kernel_rfl) (by kernel_rfl) (by kernel_rfl)
@[go_sem ↓] theorem run23 : RR r23_0 [oo 1 (.box 34 (.tmp 0)), oo 2 (oi 0)] ∧ RR r23_1 [oo 6 (oF 34 1 0), oo 7 (oL 22 6), oo 8 (oN 7 22), oo 9 (.call ⟨.value (.func 112), #[.tmp 8, .const (.int .i64 8)], #[3, 3]⟩), oo 3 (oG 9)] ∧ RR r23_2 [oo 10 (oM 3), oo 11 (oC .neq 29 10 0)] ∧ RR r23_3 [oo 12 (oM 3), oo 2 (oG 12)] ∧ RR r23_4 [oo 13 (.makeFunc (.func 113) #[] #[.tmp 1]), oo 4 (oG 13)] ∧ RR r23_5 [oo 14 (.makeFunc (.func 118) #[] #[.tmp 1]), oo 5 (oG 14)] ∧ RD r23_6 23 [oo 15 (oF 34 1 0), oo 16 (oL 22 15), oo 17 (oM 4), oo 18 (o2 119 16 17 22 190), oo 19 (o1 114 18 187), oo 20 (oF 34 1 1), oo 21 (oL 3 20), oo 22 (o1 117 21 3), oo 23 (oF 34 1 2), oo 24 (oL 32 23), oo 25 (o1 120 24 32), oo 26 (oF 34 1 2), oo 27 (oL 32 26), oo 28 (oM 5), oo 29 (o2 121 27 28 32 191), oo 30 (o1 114 29 187), oo 31 (.buildSlice 187 4 #[(0, .tmp 19), (1, .tmp 22), (2, .tmp 25), (3, .tmp 30)]), oo 32 (o1 114 31 187), oo 2 (oG 32)] [(0, 2), (1, 2), (0, 5), (1, 5), (2, 5), (3, 5), (4, 5), (0, 6), (1, 6), (2, 6), (3, 6), (4, 6), (0, 8), (1, 8), (2, 8), (3, 8), (4, 8), (5, 8), (6, 8), (7, 8), (0, 9), (1, 9), (2, 9), (3, 9), (4, 9), (5, 9), (6, 9), (7, 9), (0, 11), (1, 11), (2, 11), (3, 11), (4, 11), (5, 11), (6, 11), (7, 11), (8, 11), (9, 11), (10, 11), (0, 12), (1, 12), (2, 12), (3, 12), (4, 12), (5, 12), (6, 12), (7, 12), (8, 12), (9, 12), (10, 12), (0, 13), (1, 13), (2, 13), (3, 13), (4, 13), (5, 13), (6, 13), (7, 13), (8, 13), (9, 13), (10, 13), (11, 13), (12, 13)] ∧ FinF T 23 [.tmp 2] false := by refine ⟨runR T ?_, runR T ?_, runR T ?_, runR T ?_, runR T ?_, runR T ?_, runD T (id := 6) ?_ ?_, finI T (F := Tryz.f23) ?_ ?_ ?_⟩ <;> kernel_rfl
@[go_sem] theorem fr89 : Fct T 89 false none false ∧ Res1 T 89 4 := by refine ⟨⟨?_, ?_, ?_⟩, res1 T (F := Tryz.f89) ?_ ?_⟩ <;> kernel_rfl
def r39_0 := nv 2 Tryz.f39
def r39_1 := nv 12 Tryz.f39
def r39_2 := nv 52 Tryz.f39
def r39_3 := nv 14 Tryz.f39
theorem ent39 : Ent T 39 7 (.seq (r39_0) (.seq (.seq (r39_1) (.cond (.tmp 5) (.seq (r39_2) (.ret)) (.skip))) (.seq (r39_3) (.ret)))) := entI T (F := Tryz.f39) (by kernel_rfl) (by kernel_rfl) (by kernel_rfl)
@[go_sem ↓] theorem run39 : RR r39_0 [oo 4 (oi 0)] ∧ RR r39_1 [oo 5 (oM 0)] ∧ RR r39_2 [oo 6 (oM 1), oo 4 (oG 6)] ∧ RR r39_3 [oo 4 (oi 0)] ∧ FinF T 39 [.tmp 4] false := by refine ⟨runR T ?_, runR T ?_, runR T ?_, runR T ?_, finI T (F := Tryz.f39) ?_ ?_ ?_⟩ <;> kernel_rfl
@[go_sem] theorem fr172 : Fct T 172 false none false ∧ Res1 T 172 23 := by refine ⟨⟨?_, ?_, ?_⟩, res1 T (F := Tryz.f172) ?_ ?_⟩ <;> kernel_rfl
def r88_0 := nv 2 Tryz.f88
def r88_1 := nv 6 Tryz.f88
def r88_2 := nv 28 Tryz.f88
def b88_0 := nv 116 Tryz.f88
def r88_3 := nv 464 Tryz.f88
def r88_5 := nv 932 Tryz.f88
def r88_4 := nv 467 Tryz.f88
def r88_6 := nv 30 Tryz.f88
def r88_7 := nv 62 Tryz.f88
theorem ent88 : Ent T 88 32 (.seq (r88_0) (.seq (r88_1) (.seq (.seq (r88_2) (.block 0 (.loop b88_0))) (.seq (r88_6) (.seq (r88_7) (.ret)))))) := entI T (F := Tryz.f88) (by kernel_rfl) (by kernel_rfl) (by kernel_rfl)
@[go_sem ↓] theorem run88 : RR r88_0 [oo 1 (.box 25 (.tmp 0)), oo 2 (.alloc 25)] ∧ RR r88_1 [oo 5 (oF 25 1 1), oo 6 (oL 3 5), oo 7 (.build 25 #[(1, .tmp 6)]), oo 3 (.alloc 25), ow 25 3 7] ∧ RR r88_2 [oo 4 (oi 0)] ∧ RR r88_3 [oo 8 (oM 4), oo 9 (oF 25 1 0), oo 10 (oL 22 9), oo 11 (oN 10 22), oo 12 (oB .lss 3 8 11)] ∧ RD r88_5 88 [oo 15 (oF 25 3 0), oo 16 (oL 22 15), oo 17 (.buildSlice 28 0 #[]), oo 18 (oF 25 1 0), oo 19 (oL 22 18), oo 20 (oM 4), oo 21 (oI 22 19 20), oo 22 (oL 28 21), oo 23 (oA 17 22 28), oo 24 (oS 22 23), oo 25 (oA 16 24 22), oo 26 (oF 25 3 0), ow 22 26 25] [(0, 2), (1, 2), (0, 3), (1, 3), (2, 3), (0, 4), (1, 4), (2, 4), (0, 5), (1, 5), (2, 5), (3, 5), (4, 5), (0, 6), (1, 6), (2, 6), (0, 7), (1, 7), (2, 7), (0, 8), (1, 8), (0, 9), (1, 9)] ∧ RR r88_4 [oo 13 (oM 4), oo 14 (oC .add 3 13 1), oo 4 (oG 14)] ∧ RI b88_0 (.seq (.seq (r88_3) (.cond (.tmp 12) (.skip) (.exit 0))) (.seq (.block 1 (r88_5)) (r88_4))) ∧ KeepS T 88 b88_0 [1, 2, 3, 4] ∧ RR r88_6 [oo 27 (oF 25 1 2), oo 28 (oL 23 27), oo 29 (o1 172 28 23), oo 30 (oF 25 3 2), ow 23 30 29] ∧ RR r88_7 [oo 31 (oL 25 3), ow 25 2 31] ∧ FinF T 88 [.cell 2 25] false := by refine ⟨runR T ?_, runR T ?_, runR T ?_, runR T ?_, runD T (id := 5) ?_ ?_, runR T ?_, runIc T ?_, keepS T ?_, runR T ?_, runR T ?_, finI T (F := Tryz.f88) ?_ ?_ ?_⟩ <;> kernel_rfl
def r89_0 := nv 2 Tryz.f89
def r89_1 := nv 12 Tryz.f89
def r89_2 := nv 52 Tryz.f89
def r89_3 := nv 28 Tryz.f89
def b89_0 := nv 116 Tryz.f89
def r89_4 := nv 464 Tryz.f89
def r89_6 := nv 1864 Tryz.f89
def r89_7 := nv 7460 Tryz.f89
def r89_5 := nv 467 Tryz.f89
def r89_8 := nv 30 Tryz.f89
theorem ent89 : Ent T 89 26 (.seq (r89_0) (.seq (.seq (r89_1) (.cond (.tmp 10) (.seq (r89_2) (.ret)) (.skip))) (.seq (.seq (r89_3) (.block 0 (.loop b89_0))) (.seq (r89_8) (.ret))))) := entI T (F := Tryz.f89) (by kernel_rfl) (by kernel_rfl) (by kernel_rfl)
@[go_sem ↓] theorem run89 : RR r89_0 [oo 4 (.assign (.const (.bool false)))] ∧ RR r89_1 [oo 6 (oM 0), oo 7 (oN 6 28), oo 8 (oM 1), oo 9 (oN 8 28), oo 10 (oB .neq 3 7 9)] ∧ RR r89_2 [oo 4 (.assign (.const (.bool false)))] ∧ RR r89_3 [oo 5 (oi 0)] ∧ RR r89_4 [oo 11 (oM 5), oo 12 (oM 0), oo 13 (oN 12 28), oo 14 (oB .lss 3 11 13)] ∧ RD r89_6 89 [oo 17 (oM 0), oo 18 (oM 5), oo 19 (oI 28 17 18), oo 20 (oL 3 19), oo 21 (oM 1), oo 22 (oM 5), oo 23 (oI 28 21 22), oo 24 (oL 3 23), oo 25 (oB .neq 3 20 24)] [(0, 1), (0, 4), (1, 4), (2, 4), (3, 4), (0, 5), (1, 5), (2, 5), (3, 5), (4, 5), (0, 6), (1, 6), (2, 6), (3, 6), (0, 7), (1, 7), (2, 7), (3, 7)] ∧ RR r89_7 [oo 4 (.assign (.const (.bool false)))] ∧ RR r89_5 [oo 15 (oM 5), oo 16 (oC .add 3 15 1), oo 5 (oG 16)] ∧ RI b89_0 (.seq (.seq (r89_4) (.cond (.tmp 14) (.skip) (.exit 0))) (.seq (.block 1 (.seq (r89_6) (.cond (.tmp 25) (.seq (r89_7) (.ret)) (.skip)))) (r89_5))) ∧ KeepS T 89 b89_0 [0, 1, 5] ∧ RR r89_8 [oo 4 (.assign (.const (.bool true)))] ∧ FinF T 89 [.tmp 4] false := by refine ⟨runR T ?_, runR T ?_, runR T ?_, runR T ?_, runR T ?_, runD T (id := 6) ?_ ?_, runR T ?_, runR T ?_, runIc T ?_, keepS T ?_, runR T ?_, finI T (F := Tryz.f89) ?_ ?_ ?_⟩ <;> kernel_rfl
@[go_sem] theorem fr90 : Fct T 90 false none false ∧ Res1 T 90 3 := by refine ⟨⟨?_, ?_, ?_⟩, res1 T (F := Tryz.f90) ?_ ?_⟩ <;> kernel_rfl
def r90_0 := nv 2 Tryz.f90
def r90_1 := nv 6 Tryz.f90
theorem ent90 : Ent T 90 16 (.seq (r90_0) (.seq (r90_1) (.ret))) := entI T (F := Tryz.f90) (by kernel_rfl) (by kernel_rfl) (by kernel_rfl)
@[go_sem ↓] theorem run90 : RR r90_0 [oo 6 (oi 0)] ∧ RR r90_1 [oo 7 (oM 0), oo 8 (oM 1), oo 9 (oB .lss 3 7 8), oo 10 (oM 9), of 11 (oM 0) 10, of 12 (oM 2) 10, of 13 (oB .gtr 3 11 12) 10, oo 14 (.pick (.tmp 10) (.const (.bool true)) (.tmp 13)), oo 15 (.call ⟨.value (.func 39), #[.tmp 14, .const (.int .i64 3)], #[4, 3]⟩), oo 6 (oG 15)] ∧ FinF T 90 [.tmp 6] false := by refine ⟨runR T ?_, runR T ?_, finI T (F := Tryz.f90) ?_ ?_ ?_⟩ <;> kernel_rfl
@[go_sem] theorem fr183 : Fct T 183 false none false ∧ Res1 T 183 3 := by refine ⟨⟨?_, ?_, ?_⟩, res1 T (F := Tryz.f183) ?_ ?_⟩ <;> kernel_rfl
@[go_sem] theorem fr184 : Fct T 184 false none false ∧ Res1 T 184 28 := by refine ⟨⟨?_, ?_, ?_⟩, res1 T (F := Tryz.f184) ?_ ?_⟩ <;> kernel_rfl
@[go_sem] theorem fr185 : Fct T 185 false none false ∧ Res1 T 185 3 := by refine ⟨⟨?_, ?_, ?_⟩, res1 T (F := Tryz.f185) ?_ ?_⟩ <;> kernel_rfl
def r106_0 := nv 2 Tryz.f106
def r106_1 := nv 6 Tryz.f106
def r106_2 := nv 28 Tryz.f106
def b106_0 := nv 116 Tryz.f106
def r106_3 := nv 232 Tryz.f106
def r106_4 := nv 3736 Tryz.f106
def r106_5 := nv 3737 Tryz.f106
def r106_6 := nv 935 Tryz.f106
def r106_7 := nv 30 Tryz.f106
theorem ent106 : Ent T 106 23 (.seq (r106_0) (.seq (r106_1) (.seq (.seq (r106_2) (.block 0 (.loop b106_0))) (.seq (r106_7) (.ret))))) := entI T (F := Tryz.f106) (by kernel_rfl) (by kernel_rfl) (by kernel_rfl)
@[go_sem ↓] theorem run106 : RR r106_0 [oo 1 (.box 34 (.tmp 0)), oo 2 on] ∧ RR r106_1 [oo 3 on] ∧ RR r106_2 [oo 5 (oF 34 1 0), oo 6 (oL 22 5), oo 7 (.indexAddr 22 (.tmp 6) (.const (.int .i64 0))), oo 8 (oL 28 7), oo 9 (oN 8 28), oo 10 (.move (.const (.int .i64 0)))] ∧ RR r106_3 [oo 11 (oB .lss 3 10 9)] ∧ RR r106_4 [oo 12 (oM 10), oo 4 (.alloc 3), ow 3 4 12] ∧ RR r106_5 [oo 13 (oM 3), oo 14 (oF 34 1 0), oo 15 (oL 22 14), oo 16 (.makeFunc (.func 185) #[] #[.tmp 4]), oo 17 (o2 184 15 16 22 182), oo 18 (o1 183 17 28), oo 19 (oS 28 18), oo 20 (oA 13 19 28), oo 3 (oG 20)] ∧ RR r106_6 [oo 21 (oC .add 3 10 1), oo 10 (oM 21)] ∧ RI b106_0 (.seq (r106_3) (.seq (.cond (.tmp 11) (.skip) (.exit 0)) (.seq (.block 1 (.seq (r106_4) (r106_5))) (r106_6)))) ∧ KeepS T 106 b106_0 [1, 3, 9, 10] ∧ RR r106_7 [oo 22 (oM 3), oo 2 (oG 22)] ∧ FinF T 106 [.tmp 2] false := by refine ⟨runR T ?_, runR T ?_, runR T ?_, runR T ?_, runR T ?_, runR T ?_, runR T ?_, runIc T ?_, keepS T ?_, runR T ?_, finI T (F := Tryz.f106) ?_ ?_ ?_⟩ <;> kernel_rfl
@[go_sem] theorem fr186 : Fct T 186 false none false ∧ Res1 T 186 22 := by refine ⟨⟨?_, ?_, ?_⟩, res1 T (F := Tryz.f186) ?_ ?_⟩ <;> kernel_rfl
@[go_sem] theorem fr187 : Fct T 187 false none false ∧ Res1 T 187 28 := by refine ⟨⟨?_, ?_, ?_⟩, res1 T (F := Tryz.f187) ?_ ?_⟩ <;> kernel_rfl
def r107_0 := nv 2 Tryz.f107
def r107_1 := nv 6 Tryz.f107
def r107_2 := nv 14 Tryz.f107
theorem ent107 : Ent T 107 10 (.seq (r107_0) (.seq (r107_1) (.seq (r107_2) (.ret)))) := entI T (F := Tryz.f107) (by kernel_rfl) (by kernel_rfl) (by kernel_rfl)
@[go_sem ↓] theorem run107 : RR r107_0 [oo 1 (.box 34 (.tmp 0)), oo 2 on] ∧ RR r107_1 [oo 4 (oL 34 1), oo 5 (o1 106 4 34), oo 3 (.alloc 28), ow 28 3 5] ∧ RR r107_2 [oo 6 (oF 34 1 0), oo 7 (oL 22 6), oo 8 (.makeFunc (.func 187) #[] #[.tmp 3]), oo 9 (o2 186 7 8 22 47), oo 2 (oG 9)] ∧ FinF T 107 [.tmp 2] false := by refine ⟨runR T ?_, runR T ?_, runR T ?_, finI T (F := Tryz.f107) ?_ ?_ ?_⟩ <;> kernel_rfl
def r108_0 := nv 2 Tryz.f108
def r108_1 := nv 12 Tryz.f108
def b108_0 := nv 52 Tryz.f108
def r108_2 := nv 208 Tryz.f108
def r108_4 := nv 840 Tryz.f108
def r108_5 := nv 3364 Tryz.f108
def r108_3 := nv 211 Tryz.f108
def r108_6 := nv 14 Tryz.f108
theorem ent108 : Ent T 108 19 (.seq (r108_0) (.seq (.seq (r108_1) (.block 0 (.loop b108_0))) (.seq (r108_6) (.ret)))) := entI T (F := Tryz.f108) (by kernel_rfl) (by kernel_rfl) (by kernel_rfl)
@[go_sem ↓] theorem run108 : RR r108_0 [oo 2 (oi 0)] ∧ RR r108_1 [oo 3 (oi 0)] ∧ RR r108_2 [oo 4 (oM 3), oo 5 (oM 0), oo 6 (oN 5 28), oo 7 (oB .lss 3 4 6)] ∧ RR r108_4 [oo 10 (oM 0), oo 11 (oM 3), oo 12 (oI 28 10 11), oo 13 (oL 3 12), oo 14 (oC .neq 3 13 0)] ∧ RR r108_5 [oo 15 (oM 0), oo 16 (oM 3), oo 17 (oI 28 15 16), oo 18 (oL 3 17), oo 2 (oG 18)] ∧ RR r108_3 [oo 8 (oM 3), oo 9 (oC .add 3 8 1), oo 3 (oG 9)] ∧ RI b108_0 (.seq (.seq (r108_2) (.cond (.tmp 7) (.skip) (.exit 0))) (.seq (.block 1 (.seq (r108_4) (.cond (.tmp 14) (.seq (r108_5) (.ret)) (.skip)))) (r108_3))) ∧ KeepS T 108 b108_0 [0, 3] ∧ RR r108_6 [oo 2 (oi 0)] ∧ FinF T 108 [.tmp 2] false := by refine ⟨runR T ?_, runR T ?_, runR T ?_, runR T ?_, runR T ?_, runR T ?_, runIc T ?_, keepS T ?_, runR T ?_, finI T (F := Tryz.f108) ?_ ?_ ?_⟩ <;> kernel_rfl
def r109_0 := nv 2 Tryz.f109
def r109_1 := nv 6 Tryz.f109
theorem ent109 : Ent T 109 5 (.seq (r109_0) (.seq (r109_1) (.ret))) := entI T (F := Tryz.f109) (by kernel_rfl) (by kernel_rfl) (by kernel_rfl)
@[go_sem ↓] theorem run109 : RR r109_0 [oo 2 (oi 0)] ∧ RR r109_1 [oo 3 (oM 0), oo 4 (.call ⟨.value (.func 90), #[.tmp 3, .const (.int .i64 0), .const (.int .i64 1000000)], #[3, 3, 3]⟩), oo 2 (oG 4)] ∧ FinF T 109 [.tmp 2] false := by refine ⟨runR T ?_, runR T ?_, finI T (F := Tryz.f109) ?_ ?_ ?_⟩ <;> kernel_rfl
@[go_sem] theorem fr149 : Fct T 149 false none false ∧ Res1 T 149 3 := by refine ⟨⟨?_, ?_, ?_⟩, res1 T (F := Tryz.f149) ?_ ?_⟩ <;> kernel_rfl
@[go_sem] theorem fr188 : Fct T 188 false none false ∧ Res1 T 188 3 := by refine ⟨⟨?_, ?_, ?_⟩, res1 T (F := Tryz.f188) ?_ ?_⟩ <;> kernel_rfl
@[go_sem] theorem fr189 : Fct T 189 false none false ∧ Res1 T 189 3 := by refine ⟨⟨?_, ?_, ?_⟩, res1 T (F := Tryz.f189) ?_ ?_⟩ <;> kernel_rfl
def r110_0 := nv 2 Tryz.f110
def r110_1 := nv 12 Tryz.f110
def r110_2 := nv 52 Tryz.f110
def r110_3 := nv 28 Tryz.f110
def b110_0 := nv 116 Tryz.f110
def r110_4 := nv 464 Tryz.f110
def r110_6 := nv 1864 Tryz.f110
def r110_7 := nv 3730 Tryz.f110
def r110_8 := nv 7462 Tryz.f110
def r110_9 := nv 29852 Tryz.f110
def r110_5 := nv 467 Tryz.f110
def r110_10 := nv 30 Tryz.f110
theorem ent110 : Ent T 110 51 (.seq (r110_0) (.seq (.seq (r110_1) (.cond (.tmp 8) (.seq (r110_2) (.ret)) (.skip))) (.seq (.seq (r110_3) (.block 0 (.loop b110_0))) (.seq (r110_10) (.ret))))) := entI T (F := Tryz.f110) (by kernel_rfl) (by kernel_rfl) (by kernel_rfl)
@[go_sem ↓] theorem run110 : RR r110_0 [oo 2 (oi 0)] ∧ RR r110_1 [oo 6 (oM 0), oo 7 (oN 6 23), oo 8 (oC .gtr 3 7 8)] ∧ RR r110_2 [oo 2 (oi 5)] ∧ RR r110_3 [oo 3 (oi 0)] ∧ RR r110_4 [oo 9 (oM 3), oo 10 (oM 0), oo 11 (oN 10 23), oo 12 (oB .lss 3 9 11)] ∧ RR r110_6 [oo 15 (oM 0), oo 16 (oM 3), oo 17 (oI 23 15 16), oo 18 (oL 140 17), oo 4 (.alloc 140), ow 140 4 18] ∧ RD r110_7 110 [oo 19 (oF 140 4 0), oo 20 (oL 9 19), oo 21 (o1 188 20 9), oo 22 (oM 0), oo 23 (oM 3), oo 24 (.slice 23 (.tmp 22) none (some (.tmp 23)) none), oo 25 (oF 140 4 0), oo 26 (oL 9 25), oo 27 (o2 189 24 26 23 9), oo 28 (oC .geq 3 27 0), oo 29 (.call ⟨.value (.func 39), #[.tmp 28, .const (.int .i64 9)], #[4, 3]⟩), oo 30 (oF 140 4 1), oo 31 (oL 3 30), oo 32 (.call ⟨.value (.func 90), #[.tmp 31, .const (.int .i64 0), .const (.int .i64 7)], #[3, 3, 3]⟩), oo 33 (oF 140 4 2), oo 34 (oL 72 33), oo 35 (oN 34 72), oo 36 (oC .eql 3 35 0), oo 37 (.call ⟨.value (.func 39), #[.tmp 36, .const (.int .i64 12)], #[4, 3]⟩), oo 38 (oF 140 4 2), oo 39 (oL 72 38), oo 40 (oN 39 72), oo 41 (oC .gtr 3 40 8), oo 42 (.call ⟨.value (.func 39), #[.tmp 41, .const (.int .i64 5)], #[4, 3]⟩), oo 43 (oF 140 4 2), oo 44 (oL 72 43), oo 45 (o1 149 44 72), oo 46 (.buildSlice 28 6 #[(0, .tmp 21), (1, .tmp 29), (2, .tmp 32), (3, .tmp 37), (4, .tmp 42), (5, .tmp 45)]), oo 47 (o1 108 46 28), oo 5 (oG 47)] [(0, 3), (1, 3), (2, 3), (0, 4), (1, 4), (2, 4), (3, 4), (0, 5), (1, 5), (2, 5), (0, 6), (1, 6), (2, 6), (3, 6), (4, 6), (5, 6), (0, 7), (1, 7), (2, 7), (3, 7), (4, 7), (5, 7), (0, 11), (1, 11), (2, 11), (3, 11), (4, 11), (5, 11), (6, 11), (7, 11), (8, 11), (9, 11), (10, 11), (0, 12), (1, 12), (2, 12), (3, 12), (4, 12), (5, 12), (6, 12), (7, 12), (8, 12), (9, 12), (10, 12), (0, 14), (1, 14), (2, 14), (3, 14), (4, 14), (5, 14), (6, 14), (7, 14), (8, 14), (9, 14), (10, 14), (11, 14), (12, 14), (13, 14), (0, 15), (1, 15), (2, 15), (3, 15), (4, 15), (5, 15), (6, 15), (7, 15), (8, 15), (9, 15), (10, 15), (11, 15), (12, 15), (13, 15), (0, 16), (1, 16), (2, 16), (3, 16), (4, 16), (5, 16), (6, 16), (7, 16), (8, 16), (9, 16), (10, 16), (11, 16), (12, 16), (13, 16), (0, 17), (1, 17), (2, 17), (3, 17), (4, 17), (5, 17), (6, 17), (7, 17), (8, 17), (9, 17), (10, 17), (11, 17), (12, 17), (13, 17), (0, 19), (1, 19), (2, 19), (3, 19), (4, 19), (5, 19), (6, 19), (7, 19), (8, 19), (9, 19), (10, 19), (11, 19), (12, 19), (13, 19), (14, 19), (15, 19), (16, 19), (17, 19), (18, 19), (0, 20), (1, 20), (2, 20), (3, 20), (4, 20), (5, 20), (6, 20), (7, 20), (8, 20), (9, 20), (10, 20), (11, 20), (12, 20), (13, 20), (14, 20), (15, 20), (16, 20), (17, 20), (18, 20), (0, 21), (1, 21), (2, 21), (3, 21), (4, 21), (5, 21), (6, 21), (7, 21), (8, 21), (9, 21), (10, 21), (11, 21), (12, 21), (13, 21), (14, 21), (15, 21), (16, 21), (17, 21), (18, 21), (0, 22), (1, 22), (2, 22), (3, 22), (4, 22), (5, 22), (6, 22), (7, 22), (8, 22), (9, 22), (10, 22), (11, 22), (12, 22), (13, 22), (14, 22), (15, 22), (16, 22), (17, 22), (18, 22), (0, 24), (1, 24), (2, 24), (3, 24), (4, 24), (5, 24), (6, 24), (7, 24), (8, 24), (9, 24), (10, 24), (11, 24), (12, 24), (13, 24), (14, 24), (15, 24), (16, 24), (17, 24), (18, 24), (19, 24), (20, 24), (21, 24), (22, 24), (23, 24), (0, 25), (1, 25), (2, 25), (3, 25), (4, 25), (5, 25), (6, 25), (7, 25), (8, 25), (9, 25), (10, 25), (11, 25), (12, 25), (13, 25), (14, 25), (15, 25), (16, 25), (17, 25), (18, 25), (19, 25), (20, 25), (21, 25), (22, 25), (23, 25)] ∧ RR r110_8 [oo 48 (oM 5), oo 49 (oC .neq 3 48 0)] ∧ RR r110_9 [oo 50 (oM 5), oo 2 (oG 50)] ∧ RR r110_5 [oo 13 (oM 3), oo 14 (oC .add 3 13 1), oo 3 (oG 14)] ∧ RI b110_0 (.seq (.seq (r110_4) (.cond (.tmp 12) (.skip) (.exit 0))) (.seq (.block 1 (.seq (r110_6) (.seq (r110_7) (.seq (r110_8) (.cond (.tmp 49) (.seq (r110_9) (.ret)) (.skip)))))) (r110_5))) ∧ KeepS T 110 b110_0 [0, 3] ∧ RR r110_10 [oo 2 (oi 0)] ∧ FinF T 110 [.tmp 2] false := by refine ⟨runR T ?_, runR T ?_, runR T ?_, runR T ?_, runR T ?_, runR T ?_, runD T (id := 7) ?_ ?_, runR T ?_, runR T ?_, runR T ?_, runIc T ?_, keepS T ?_, runR T ?_, finI T (F := Tryz.f110) ?_ ?_ ?_⟩ <;> kernel_rfl
@[go_sem] theorem fr115 : Fct T 115 false none false ∧ Res1 T 115 29 := by refine ⟨⟨?_, ?_, ?_⟩, res1 T (F := Tryz.f115) ?_ ?_⟩ <;> kernel_rfl
def r112_0 := nv 2 Tryz.f112
def r112_1 := nv 6 Tryz.f112
theorem ent112 : Ent T 112 14 (.seq (r112_0) (.seq (r112_1) (.ret))) := entI T (F := Tryz.f112) (by kernel_rfl) (by kernel_rfl) (by kernel_rfl)
@[go_sem ↓] theorem run112 : RR r112_0 [oo 4 (oi 0)] ∧ RR r112_1 [oo 5 (oM 0), oo 6 (oC .eql 3 5 0), oo 7 (.call ⟨.value (.func 115), #[.tmp 6, .const (.int .i64 12)], #[4, 29]⟩), oo 8 (oM 0), oo 9 (oM 1), oo 10 (oB .gtr 3 8 9), oo 11 (.call ⟨.value (.func 115), #[.tmp 10, .const (.int .i64 5)], #[4, 29]⟩), oo 12 (.buildSlice 187 2 #[(0, .tmp 7), (1, .tmp 11)]), oo 13 (o1 114 12 187), oo 4 (oG 13)] ∧ FinF T 112 [.tmp 4] false := by refine ⟨runR T ?_, runR T ?_, finI T (F := Tryz.f112) ?_ ?_ ?_⟩ <;> kernel_rfl
@[go_sem] theorem fr116 : Fct T 116 false none false ∧ Res1 T 116 187 := by refine ⟨⟨?_, ?_, ?_⟩, res1 T (F := Tryz.f116) ?_ ?_⟩ <;> kernel_rfl
def r113_0 := nv 2 Tryz.f113
def r113_1 := nv 6 Tryz.f113
theorem ent113 : Ent T 113 21 (.seq (r113_0) (.seq (r113_1) (.ret))) := entI T (F := Tryz.f113) (by kernel_rfl) (by kernel_rfl) (by kernel_rfl)
@[go_sem ↓] theorem run113 : RR r113_0 [oo 3 (oi 0)] ∧ RD r113_1 113 [oo 4 (oM 0), oo 5 (oN 4 28), oo 6 (.call ⟨.value (.func 112), #[.tmp 5, .const (.int .i64 8)], #[3, 3]⟩), oo 7 (oM 0), oo 8 (oN 7 28), oo 9 (oF 34 1 0), oo 10 (oL 22 9), oo 11 (.indexAddr 22 (.tmp 10) (.const (.int .i64 0))), oo 12 (oL 28 11), oo 13 (oN 12 28), oo 14 (oB .neq 3 8 13), oo 15 (.call ⟨.value (.func 115), #[.tmp 14, .const (.int .i64 2)], #[4, 29]⟩), oo 16 (oM 0), oo 17 (.call ⟨.value (.func 116), #[.tmp 16, .func 117], #[28, 189]⟩), oo 18 (o1 114 17 187), oo 19 (.buildSlice 187 3 #[(0, .tmp 6), (1, .tmp 15), (2, .tmp 18)]), oo 20 (o1 114 19 187), oo 3 (oG 20)] [(0, 3), (1, 3), (2, 3), (0, 4), (1, 4), (2, 4), (0, 5), (1, 5), (2, 5), (3, 5), (4, 5), (0, 6), (1, 6), (2, 6), (3, 6), (4, 6), (0, 7), (1, 7), (2, 7), (3, 7), (4, 7), (0, 8), (1, 8), (2, 8), (3, 8), (4, 8), (0, 9), (1, 9), (2, 9), (3, 9), (4, 9), (0, 10), (1, 10), (2, 10), (0, 12), (1, 12), (2, 12), (3, 12), (4, 12), (5, 12), (6, 12), (7, 12), (8, 12), (9, 12), (10, 12), (11, 12)] ∧ FinF T 113 [.tmp 3] false := by refine ⟨runR T ?_, runD T (id := 1) ?_ ?_, finI T (F := Tryz.f113) ?_ ?_ ?_⟩ <;> kernel_rfl
def r114_0 := nv 2 Tryz.f114
def r114_1 := nv 12 Tryz.f114
def b114_0 := nv 52 Tryz.f114
def r114_2 := nv 104 Tryz.f114
def r114_3 := nv 1688 Tryz.f114
def r114_4 := nv 3378 Tryz.f114
def r114_5 := nv 13516 Tryz.f114
def r114_6 := nv 423 Tryz.f114
def r114_7 := nv 14 Tryz.f114
theorem ent114 : Ent T 114 15 (.seq (r114_0) (.seq (.seq (r114_1) (.block 0 (.loop b114_0))) (.seq (r114_7) (.ret)))) := entI T (F := Tryz.f114) (by kernel_rfl) (by kernel_rfl) (by kernel_rfl)
@[go_sem ↓] theorem run114 : RR r114_0 [oo 2 (oi 0)] ∧ RR r114_1 [oo 5 (oM 0), oo 6 (oN 5 187), oo 7 (.move (.const (.int .i64 0)))] ∧ RR r114_2 [oo 8 (oB .lss 3 7 6)] ∧ RR r114_3 [oo 9 (oI 187 5 7), oo 10 (oL 29 9), oo 4 (oG 10)] ∧ RR r114_4 [oo 11 (oM 4), oo 12 (oC .neq 29 11 0)] ∧ RR r114_5 [oo 13 (oM 4), oo 2 (oG 13)] ∧ RR r114_6 [oo 14 (oC .add 3 7 1), oo 7 (oM 14)] ∧ RI b114_0 (.seq (r114_2) (.seq (.cond (.tmp 8) (.skip) (.exit 0)) (.seq (.block 1 (.seq (r114_3) (.seq (r114_4) (.cond (.tmp 12) (.seq (r114_5) (.ret)) (.skip))))) (r114_6)))) ∧ KeepS T 114 b114_0 [5, 6, 7] ∧ RR r114_7 [oo 2 (oi 0)] ∧ FinF T 114 [.tmp 2] false := by refine ⟨runR T ?_, runR T ?_, runR T ?_, runR T ?_, runR T ?_, runR T ?_, runR T ?_, runIc T ?_, keepS T ?_, runR T ?_, finI T (F := Tryz.f114) ?_ ?_ ?_⟩ <;> kernel_rfl
def r115_0 := nv 2 Tryz.f115
def r115_1 := nv 12 Tryz.f115
def r115_2 := nv 52 Tryz.f115
def r115_3 := nv 14 Tryz.f115
theorem ent115 : Ent T 115 7 (.seq (r115_0) (.seq (.seq (r115_1) (.cond (.tmp 5) (.seq (r115_2) (.ret)) (.skip))) (.seq (r115_3) (.ret)))) := entI T (F := Tryz.f115) (by kernel_rfl) (by kernel_rfl) (by kernel_rfl)
@[go_sem ↓] theorem run115 : RR r115_0 [oo 4 (oi 0)] ∧ RR r115_1 [oo 5 (oM 0)] ∧ RR r115_2 [oo 6 (oM 1), oo 4 (oG 6)] ∧ RR r115_3 [oo 4 (oi 0)] ∧ FinF T 115 [.tmp 4] false := by refine ⟨runR T ?_, runR T ?_, runR T ?_, runR T ?_, finI T (F := Tryz.f115) ?_ ?_ ?_⟩ <;> kernel_rfl
def r116_0 := nv 2 Tryz.f116
def r116_1 := nv 6 Tryz.f116
def r116_2 := nv 28 Tryz.f116
def b116_0 := nv 116 Tryz.f116
def r116_3 := nv 232 Tryz.f116
def r116_4 := nv 3736 Tryz.f116
def r116_5 := nv 3737 Tryz.f116
def r116_6 := nv 935 Tryz.f116
def r116_7 := nv 30 Tryz.f116
theorem ent116 : Ent T 116 22 (.seq (r116_0) (.seq (r116_1) (.seq (.seq (r116_2) (.block 0 (.loop b116_0))) (.seq (r116_7) (.ret))))) := entI T (F := Tryz.f116) (by kernel_rfl) (by kernel_rfl) (by kernel_rfl)
@[go_sem ↓] theorem run116 : RR r116_0 [oo 4 on] ∧ RR r116_1 [oo 5 on] ∧ RR r116_2 [oo 8 (oM 0), oo 9 (oN 8 28), oo 10 (.move (.const (.int .i64 0)))] ∧ RR r116_3 [oo 11 (oB .lss 3 10 9)] ∧ RR r116_4 [oo 12 (oI 28 8 10), oo 13 (oL 3 12), oo 7 (oG 13)] ∧ RR r116_5 [oo 14 (oM 5), oo 15 (oM 1), oo 16 (oM 7), oo 17 (.call ⟨.value (.tmp 15), #[.tmp 16], #[3]⟩), oo 18 (oS 187 17), oo 19 (oA 14 18 187), oo 5 (oG 19)] ∧ RR r116_6 [oo 20 (oC .add 3 10 1), oo 10 (oM 20)] ∧ RI b116_0 (.seq (r116_3) (.seq (.cond (.tmp 11) (.skip) (.exit 0)) (.seq (.block 1 (.seq (r116_4) (r116_5))) (r116_6)))) ∧ KeepS T 116 b116_0 [1, 5, 8, 9, 10] ∧ RR r116_7 [oo 21 (oM 5), oo 4 (oG 21)] ∧ FinF T 116 [.tmp 4] false := by refine ⟨runR T ?_, runR T ?_, runR T ?_, runR T ?_, runR T ?_, runR T ?_, runR T ?_, runIc T ?_, keepS T ?_, runR T ?_, finI T (F := Tryz.f116) ?_ ?_ ?_⟩ <;> kernel_rfl
@[go_sem] theorem fr137 : Fct T 137 false none false ∧ Res1 T 137 29 := by refine ⟨⟨?_, ?_, ?_⟩, res1 T (F := Tryz.f137) ?_ ?_⟩ <;> kernel_rfl
def r117_0 := nv 2 Tryz.f117
def r117_1 := nv 6 Tryz.f117
theorem ent117 : Ent T 117 5 (.seq (r117_0) (.seq (r117_1) (.ret))) := entI T (F := Tryz.f117) (by kernel_rfl) (by kernel_rfl) (by kernel_rfl)
@[go_sem ↓] theorem run117 : RR r117_0 [oo 2 (oi 0)] ∧ RR r117_1 [oo 3 (oM 0), oo 4 (.call ⟨.value (.func 137), #[.tmp 3, .const (.int .i64 0), .const (.int .i64 1000000)], #[3, 3, 3]⟩), oo 2 (oG 4)] ∧ FinF T 117 [.tmp 2] false := by refine ⟨runR T ?_, runR T ?_, finI T (F := Tryz.f117) ?_ ?_ ?_⟩ <;> kernel_rfl
def r118_0 := nv 2 Tryz.f118
def r118_1 := nv 6 Tryz.f118
theorem ent118 : Ent T 118 23 (.seq (r118_0) (.seq (r118_1) (.ret))) := entI T (F := Tryz.f118) (by kernel_rfl) (by kernel_rfl) (by kernel_rfl)
@[go_sem ↓] theorem run118 : RR r118_0 [oo 2 (.box 180 (.tmp 0)), oo 3 (oi 0)] ∧ RD r118_1 118 [oo 4 (oF 180 2 1), oo 5 (oL 3 4), oo 6 (oF 34 1 0), oo 7 (oL 22 6), oo 8 (oN 7 22), oo 9 (oB .geq 3 5 8), oo 10 (.call ⟨.value (.func 115), #[.tmp 9, .const (.int .i64 10)], #[4, 29]⟩), oo 11 (oF 180 2 2), oo 12 (oL 72 11), oo 13 (oN 12 72), oo 14 (oF 34 1 0), oo 15 (oL 22 14), oo 16 (.indexAddr 22 (.tmp 15) (.const (.int .i64 0))), oo 17 (oL 28 16), oo 18 (oN 17 28), oo 19 (oB .neq 3 13 18), oo 20 (.call ⟨.value (.func 115), #[.tmp 19, .const (.int .i64 2)], #[4, 29]⟩), oo 21 (.buildSlice 187 2 #[(0, .tmp 10), (1, .tmp 20)]), oo 22 (o1 114 21 187), oo 3 (oG 22)] [(0, 2), (1, 2), (0, 3), (1, 3), (0, 4), (1, 4), (0, 7), (1, 7), (2, 7), (3, 7), (4, 7), (5, 7), (6, 7), (0, 8), (1, 8), (2, 8), (3, 8), (4, 8), (5, 8), (6, 8), (0, 9), (1, 9), (2, 9), (3, 9), (4, 9), (5, 9), (6, 9), (0, 10), (1, 10), (2, 10), (3, 10), (4, 10), (5, 10), (6, 10), (7, 10), (8, 10), (9, 10), (0, 11), (1, 11), (2, 11), (3, 11), (4, 11), (5, 11), (6, 11), (7, 11), (8, 11), (9, 11), (0, 12), (1, 12), (2, 12), (3, 12), (4, 12), (5, 12), (6, 12), (7, 12), (8, 12), (9, 12), (0, 13), (1, 13), (2, 13), (3, 13), (4, 13), (5, 13), (6, 13), (7, 13), (8, 13), (9, 13), (0, 14), (1, 14), (2, 14), (3, 14), (4, 14), (5, 14), (6, 14), (7, 14), (8, 14), (9, 14), (0, 15), (1, 15), (2, 15), (3, 15), (4, 15), (5, 15), (6, 15)] ∧ FinF T 118 [.tmp 3] false := by refine ⟨runR T ?_, runD T (id := 1) ?_ ?_, finI T (F := Tryz.f118) ?_ ?_ ?_⟩ <;> kernel_rfl
def r119_0 := nv 2 Tryz.f119
def r119_1 := nv 6 Tryz.f119
def r119_2 := nv 28 Tryz.f119
def b119_0 := nv 116 Tryz.f119
def r119_3 := nv 232 Tryz.f119
def r119_4 := nv 3736 Tryz.f119
def r119_5 := nv 3737 Tryz.f119
def r119_6 := nv 935 Tryz.f119
def r119_7 := nv 30 Tryz.f119
theorem ent119 : Ent T 119 22 (.seq (r119_0) (.seq (r119_1) (.seq (.seq (r119_2) (.block 0 (.loop b119_0))) (.seq (r119_7) (.ret))))) := entI T (F := Tryz.f119) (by kernel_rfl) (by kernel_rfl) (by kernel_rfl)
@[go_sem ↓] theorem run119 : RR r119_0 [oo 4 on] ∧ RR r119_1 [oo 5 on] ∧ RR r119_2 [oo 8 (oM 0), oo 9 (oN 8 22), oo 10 (.move (.const (.int .i64 0)))] ∧ RR r119_3 [oo 11 (oB .lss 3 10 9)] ∧ RR r119_4 [oo 12 (oI 22 8 10), oo 13 (oL 28 12), oo 7 (oG 13)] ∧ RR r119_5 [oo 14 (oM 5), oo 15 (oM 1), oo 16 (oM 7), oo 17 (.call ⟨.value (.tmp 15), #[.tmp 16], #[28]⟩), oo 18 (oS 187 17), oo 19 (oA 14 18 187), oo 5 (oG 19)] ∧ RR r119_6 [oo 20 (oC .add 3 10 1), oo 10 (oM 20)] ∧ RI b119_0 (.seq (r119_3) (.seq (.cond (.tmp 11) (.skip) (.exit 0)) (.seq (.block 1 (.seq (r119_4) (r119_5))) (r119_6)))) ∧ KeepS T 119 b119_0 [1, 5, 8, 9, 10] ∧ RR r119_7 [oo 21 (oM 5), oo 4 (oG 21)] ∧ FinF T 119 [.tmp 4] false := by refine ⟨runR T ?_, runR T ?_, runR T ?_, runR T ?_, runR T ?_, runR T ?_, runR T ?_, runIc T ?_, keepS T ?_, runR T ?_, finI T (F := Tryz.f119) ?_ ?_ ?_⟩ <;> kernel_rfl
@[go_sem] theorem fr190 : Fct T 190 false none false ∧ Res1 T 190 4 := by refine ⟨⟨?_, ?_, ?_⟩, res1 T (F := Tryz.f190) ?_ ?_⟩ <;> kernel_rfl
@[go_sem] theorem fr191 : Fct T 191 false none false ∧ Res1 T 191 29 := by refine ⟨⟨?_, ?_, ?_⟩, res1 T (F := Tryz.f191) ?_ ?_⟩ <;> kernel_rfl
def r120_0 := nv 2 Tryz.f120
def r120_1 := nv 12 Tryz.f120
def r120_2 := nv 52 Tryz.f120
def r120_3 := nv 14 Tryz.f120
def r120_4 := nv 60 Tryz.f120
def b120_0 := nv 244 Tryz.f120
def r120_5 := nv 488 Tryz.f120
def r120_6 := nv 7832 Tryz.f120
def r120_7 := nv 31332 Tryz.f120
def r120_8 := nv 62666 Tryz.f120
def r120_9 := nv 250668 Tryz.f120
def r120_10 := nv 15667 Tryz.f120
def r120_11 := nv 1959 Tryz.f120
def r120_12 := nv 62 Tryz.f120
theorem ent120 : Ent T 120 38 (.seq (r120_0) (.seq (.seq (r120_1) (.cond (.tmp 9) (.seq (r120_2) (.ret)) (.skip))) (.seq (r120_3) (.seq (.seq (r120_4) (.block 0 (.loop b120_0))) (.seq (r120_12) (.ret)))))) := entI T (F := Tryz.f120) (by kernel_rfl) (by kernel_rfl) (by kernel_rfl)
@[go_sem ↓] theorem run120 : RR r120_0 [oo 2 (oi 0)] ∧ RR r120_1 [oo 7 (oM 0), oo 8 (oN 7 32), oo 9 (oC .gtr 3 8 8)] ∧ RR r120_2 [oo 2 (oi 5)] ∧ RR r120_3 [oo 10 (.makeMap 276 none), oo 3 (oG 10)] ∧ RR r120_4 [oo 11 (oM 0), oo 12 (oN 11 32), oo 13 (.move (.const (.int .i64 0)))] ∧ RR r120_5 [oo 14 (oB .lss 3 13 12)] ∧ RR r120_6 [oo 15 (oI 32 11 13), oo 16 (oL 180 15), oo 5 (.alloc 180), ow 180 5 16] ∧ RD r120_7 120 [oo 17 (oF 180 5 0), oo 18 (oL 9 17), oo 19 (o1 190 18 9), oo 20 (.unOp .not 4 (.tmp 19)), oo 21 (.call ⟨.value (.func 115), #[.tmp 20, .const (.int .i64 8)], #[4, 29]⟩), oo 22 (oM 3), oo 23 (oF 180 5 0), oo 24 (oL 9 23), oo 25 (.lookup 276 (.tmp 22) (.tmp 24) false), oo 26 (.call ⟨.value (.func 115), #[.tmp 25, .const (.int .i64 9)], #[4, 29]⟩), oo 27 (oL 180 5), oo 28 (o1 191 27 180), oo 29 (.buildSlice 187 3 #[(0, .tmp 21), (1, .tmp 26), (2, .tmp 28)]), oo 30 (o1 114 29 187), oo 6 (oG 30)] [(0, 5), (1, 5), (2, 5), (3, 5), (4, 5), (0, 6), (1, 6), (2, 6), (3, 6), (4, 6), (5, 6), (0, 7), (1, 7), (2, 7), (3, 7), (4, 7), (5, 7), (0, 8), (1, 8), (2, 8), (3, 8), (4, 8), (0, 10), (1, 10), (2, 10), (3, 10), (4, 10), (5, 10), (6, 10), (7, 10), (8, 10), (9, 10)] ∧ RR r120_8 [oo 31 (oM 6), oo 32 (oC .neq 29 31 0)] ∧ RR r120_9 [oo 33 (oM 6), oo 2 (oG 33)] ∧ RR r120_10 [oo 34 (oM 3), oo 35 (oF 180 5 0), oo 36 (oL 9 35), ⟨none, .mapUpdate 276 (.tmp 34) (.tmp 36) (.const (.bool true)), none⟩] ∧ RR r120_11 [oo 37 (oC .add 3 13 1), oo 13 (oM 37)] ∧ RI b120_0 (.seq (r120_5) (.seq (.cond (.tmp 14) (.skip) (.exit 0)) (.seq (.block 1 (.seq (r120_6) (.seq (.seq (r120_7) (.seq (r120_8) (.cond (.tmp 32) (.seq (r120_9) (.ret)) (.skip)))) (r120_10)))) (r120_11)))) ∧ KeepS T 120 b120_0 [3, 11, 12, 13] ∧ RR r120_12 [oo 2 (oi 0)] ∧ FinF T 120 [.tmp 2] false := by refine ⟨runR T ?_, runR T ?_, runR T ?_, runR T ?_, runR T ?_, runR T ?_, runR T ?_, runD T (id := 7) ?_ ?_, runR T ?_, runR T ?_, runR T ?_, runR T ?_, runIc T ?_, keepS T ?_, runR T ?_, finI T (F := Tryz.f120) ?_ ?_ ?_⟩ <;> kernel_rfl
def r121_0 := nv 2 Tryz.f121
def r121_1 := nv 6 Tryz.f121
def r121_2 := nv 28 Tryz.f121
def b121_0 := nv 116 Tryz.f121
def r121_3 := nv 232 Tryz.f121
def r121_4 := nv 3736 Tryz.f121
def r121_5 := nv 3737 Tryz.f121
def r121_6 := nv 935 Tryz.f121
def r121_7 := nv 30 Tryz.f121
theorem ent121 : Ent T 121 22 (.seq (r121_0) (.seq (r121_1) (.seq (.seq (r121_2) (.block 0 (.loop b121_0))) (.seq (r121_7) (.ret))))) := entI T (F := Tryz.f121) (by kernel_rfl) (by kernel_rfl) (by kernel_rfl)
@[go_sem ↓] theorem run121 : RR r121_0 [oo 4 on] ∧ RR r121_1 [oo 5 on] ∧ RR r121_2 [oo 8 (oM 0), oo 9 (oN 8 32), oo 10 (.move (.const (.int .i64 0)))] ∧ RR r121_3 [oo 11 (oB .lss 3 10 9)] ∧ RR r121_4 [oo 12 (oI 32 8 10), oo 13 (oL 180 12), oo 7 (.alloc 180), ow 180 7 13] ∧ RR r121_5 [oo 14 (oM 5), oo 15 (oM 1), oo 16 (oL 180 7), oo 17 (.call ⟨.value (.tmp 15), #[.tmp 16], #[180]⟩), oo 18 (oS 187 17), oo 19 (oA 14 18 187), oo 5 (oG 19)] ∧ RR r121_6 [oo 20 (oC .add 3 10 1), oo 10 (oM 20)] ∧ RI b121_0 (.seq (r121_3) (.seq (.cond (.tmp 11) (.skip) (.exit 0)) (.seq (.block 1 (.seq (r121_4) (r121_5))) (r121_6)))) ∧ KeepS T 121 b121_0 [1, 5, 8, 9, 10] ∧ RR r121_7 [oo 21 (oM 5), oo 4 (oG 21)] ∧ FinF T 121 [.tmp 4] false := by refine ⟨runR T ?_, runR T ?_, runR T ?_, runR T ?_, runR T ?_, runR T ?_, runR T ?_, runIc T ?_, keepS T ?_, runR T ?_, finI T (F := Tryz.f121) ?_ ?_ ?_⟩ <;> kernel_rfl
def r137_0 := nv 2 Tryz.f137
def r137_1 := nv 6 Tryz.f137
theorem ent137 : Ent T 137 16 (.seq (r137_0) (.seq (r137_1) (.ret))) := entI T (F := Tryz.f137) (by kernel_rfl) (by kernel_rfl) (by kernel_rfl)
@[go_sem ↓] theorem run137 : RR r137_0 [oo 6 (oi 0)] ∧ RR r137_1 [oo 7 (oM 0), oo 8 (oM 1), oo 9 (oB .lss 3 7 8), oo 10 (oM 9), of 11 (oM 0) 10, of 12 (oM 2) 10, of 13 (oB .gtr 3 11 12) 10, oo 14 (.pick (.tmp 10) (.const (.bool true)) (.tmp 13)), oo 15 (.call ⟨.value (.func 115), #[.tmp 14, .const (.int .i64 3)], #[4, 29]⟩), oo 6 (oG 15)] ∧ FinF T 137 [.tmp 6] false := by refine ⟨runR T ?_, runR T ?_, finI T (F := Tryz.f137) ?_ ?_ ?_⟩ <;> kernel_rfl
@[go_sem] theorem fr145 : Fct T 145 false none false ∧ Res1 T 145 187 := by refine ⟨⟨?_, ?_, ?_⟩, res1 T (F := Tryz.f145) ?_ ?_⟩ <;> kernel_rfl
def r145_0 := nv 2 Tryz.f145
def r145_1 := nv 6 Tryz.f145
def r145_2 := nv 28 Tryz.f145
def b145_0 := nv 116 Tryz.f145
def r145_3 := nv 232 Tryz.f145
def r145_4 := nv 3736 Tryz.f145
def r145_5 := nv 3737 Tryz.f145
def r145_6 := nv 935 Tryz.f145
def r145_7 := nv 30 Tryz.f145
theorem ent145 : Ent T 145 22 (.seq (r145_0) (.seq (r145_1) (.seq (.seq (r145_2) (.block 0 (.loop b145_0))) (.seq (r145_7) (.ret))))) := entI T (F := Tryz.f145) (by kernel_rfl) (by kernel_rfl) (by kernel_rfl)
@[go_sem ↓] theorem run145 : RR r145_0 [oo 4 on] ∧ RR r145_1 [oo 5 on] ∧ RR r145_2 [oo 8 (oM 0), oo 9 (oN 8 72), oo 10 (.move (.const (.int .i64 0)))] ∧ RR r145_3 [oo 11 (oB .lss 3 10 9)] ∧ RR r145_4 [oo 12 (oI 72 8 10), oo 13 (oL 142 12), oo 7 (.alloc 142), ow 142 7 13] ∧ RR r145_5 [oo 14 (oM 5), oo 15 (oM 1), oo 16 (oL 142 7), oo 17 (.call ⟨.value (.tmp 15), #[.tmp 16], #[142]⟩), oo 18 (oS 187 17), oo 19 (oA 14 18 187), oo 5 (oG 19)] ∧ RR r145_6 [oo 20 (oC .add 3 10 1), oo 10 (oM 20)] ∧ RI b145_0 (.seq (r145_3) (.seq (.cond (.tmp 11) (.skip) (.exit 0)) (.seq (.block 1 (.seq (r145_4) (r145_5))) (r145_6)))) ∧ KeepS T 145 b145_0 [1, 5, 8, 9, 10] ∧ RR r145_7 [oo 21 (oM 5), oo 4 (oG 21)] ∧ FinF T 145 [.tmp 4] false := by refine ⟨runR T ?_, runR T ?_, runR T ?_, runR T ?_, runR T ?_, runR T ?_, runR T ?_, runIc T ?_, keepS T ?_, runR T ?_, finI T (F := Tryz.f145) ?_ ?_ ?_⟩ <;> kernel_rfl
@[go_sem] theorem fr146 : Fct T 146 false none false ∧ Res1 T 146 29 := by refine ⟨⟨?_, ?_, ?_⟩, res1 T (F := Tryz.f146) ?_ ?_⟩ <;> kernel_rfl
def r146_0 := nv 2 Tryz.f146
def r146_1 := nv 6 Tryz.f146
theorem ent146 : Ent T 146 17 (.seq (r146_0) (.seq (r146_1) (.ret))) := entI T (F := Tryz.f146) (by kernel_rfl) (by kernel_rfl) (by kernel_rfl)
@[go_sem ↓] theorem run146 : RR r146_0 [oo 1 (.box 142 (.tmp 0)), oo 2 (oi 0)] ∧ RD r146_1 146 [oo 3 (oF 142 1 0), oo 4 (oL 3 3), oo 5 (o1 117 4 3), oo 6 (oF 142 1 1), oo 7 (oL 3 6), oo 8 (o1 117 7 3), oo 9 (oF 142 1 0), oo 10 (oL 3 9), oo 11 (oF 142 1 1), oo 12 (oL 3 11), oo 13 (oB .gtr 3 10 12), oo 14 (.call ⟨.value (.func 115), #[.tmp 13, .const (.int .i64 11)], #[4, 29]⟩), oo 15 (.buildSlice 187 3 #[(0, .tmp 5), (1, .tmp 8), (2, .tmp 14)]), oo 16 (o1 114 15 187), oo 2 (oG 16)] [(0, 3), (1, 3), (2, 3), (0, 4), (1, 4), (2, 4), (0, 6), (1, 6), (2, 6), (3, 6), (4, 6), (5, 6), (0, 7), (1, 7), (2, 7), (3, 7), (4, 7), (5, 7), (0, 8), (1, 8), (2, 8), (3, 8), (4, 8), (5, 8), (6, 8), (7, 8), (0, 9), (1, 9), (2, 9), (3, 9), (4, 9), (5, 9), (6, 9), (7, 9), (0, 10), (1, 10), (2, 10), (3, 10), (4, 10), (5, 10)] ∧ FinF T 146 [.tmp 2] false := by refine ⟨runR T ?_, runD T (id := 1) ?_ ?_, finI T (F := Tryz.f146) ?_ ?_ ?_⟩ <;> kernel_rfl
@[go_sem] theorem fr212 : Fct T 212 false none false ∧ Res1 T 212 3 := by refine ⟨⟨?_, ?_, ?_⟩, res1 T (F := Tryz.f212) ?_ ?_⟩ <;> kernel_rfl
def r149_0 := nv 2 Tryz.f149
def r149_1 := nv 12 Tryz.f149
def b149_0 := nv 52 Tryz.f149
def r149_2 := nv 208 Tryz.f149
def r149_4 := nv 840 Tryz.f149
def r149_5 := nv 1682 Tryz.f149
def r149_6 := nv 6732 Tryz.f149
def r149_3 := nv 211 Tryz.f149
def r149_7 := nv 14 Tryz.f149
theorem ent149 : Ent T 149 19 (.seq (r149_0) (.seq (.seq (r149_1) (.block 0 (.loop b149_0))) (.seq (r149_7) (.ret)))) := entI T (F := Tryz.f149) (by kernel_rfl) (by kernel_rfl) (by kernel_rfl)
@[go_sem ↓] theorem run149 : RR r149_0 [oo 2 (oi 0)] ∧ RR r149_1 [oo 3 (oi 0)] ∧ RR r149_2 [oo 5 (oM 3), oo 6 (oM 0), oo 7 (oN 6 72), oo 8 (oB .lss 3 5 7)] ∧ RR r149_4 [oo 11 (oM 0), oo 12 (oM 3), oo 13 (oI 72 11 12), oo 14 (oL 142 13), oo 15 (.call ⟨.value (.func 212), #[.tmp 14, .const (.int .i64 0), .const (.int .i64 1000000)], #[142, 3, 3]⟩), oo 4 (oG 15)] ∧ RR r149_5 [oo 16 (oM 4), oo 17 (oC .neq 3 16 0)] ∧ RR r149_6 [oo 18 (oM 4), oo 2 (oG 18)] ∧ RR r149_3 [oo 9 (oM 3), oo 10 (oC .add 3 9 1), oo 3 (oG 10)] ∧ RI b149_0 (.seq (.seq (r149_2) (.cond (.tmp 8) (.skip) (.exit 0))) (.seq (.block 1 (.seq (r149_4) (.seq (r149_5) (.cond (.tmp 17) (.seq (r149_6) (.ret)) (.skip))))) (r149_3))) ∧ KeepS T 149 b149_0 [0, 3] ∧ RR r149_7 [oo 2 (oi 0)] ∧ FinF T 149 [.tmp 2] false := by refine ⟨runR T ?_, runR T ?_, runR T ?_, runR T ?_, runR T ?_, runR T ?_, runR T ?_, runIc T ?_, keepS T ?_, runR T ?_, finI T (F := Tryz.f149) ?_ ?_ ?_⟩ <;> kernel_rfl
def r172_0 := nv 2 Tryz.f172
def r172_1 := nv 6 Tryz.f172
def r172_2 := nv 28 Tryz.f172
def b172_0 := nv 116 Tryz.f172
def r172_3 := nv 464 Tryz.f172
def r172_5 := nv 1864 Tryz.f172
def r172_6 := nv 3730 Tryz.f172
def r172_7 := nv 3731 Tryz.f172
def r172_4 := nv 467 Tryz.f172
def r172_8 := nv 30 Tryz.f172
theorem ent172 : Ent T 172 26 (.seq (r172_0) (.seq (r172_1) (.seq (.seq (r172_2) (.block 0 (.loop b172_0))) (.seq (r172_8) (.ret))))) := entI T (F := Tryz.f172) (by kernel_rfl) (by kernel_rfl) (by kernel_rfl)
@[go_sem ↓] theorem run172 : RR r172_0 [oo 2 on] ∧ RR r172_1 [oo 3 on] ∧ RR r172_2 [oo 4 (oi 0)] ∧ RR r172_3 [oo 6 (oM 4), oo 7 (oM 0), oo 8 (oN 7 23), oo 9 (oB .lss 3 6 8)] ∧ RR r172_5 [oo 12 (oM 0), oo 13 (oM 4), oo 14 (oI 23 12 13), oo 15 (oL 140 14), oo 5 (.alloc 140), ow 140 5 15] ∧ RR r172_6 [oo 16 (.buildSlice 72 0 #[]), oo 17 (oF 140 5 2), oo 18 (oL 72 17), oo 19 (oA 16 18 72), oo 20 (oF 140 5 2), ow 72 20 19] ∧ RR r172_7 [oo 21 (oM 3), oo 22 (oL 140 5), oo 23 (oS 23 22), oo 24 (oA 21 23 23), oo 3 (oG 24)] ∧ RR r172_4 [oo 10 (oM 4), oo 11 (oC .add 3 10 1), oo 4 (oG 11)] ∧ RI b172_0 (.seq (.seq (r172_3) (.cond (.tmp 9) (.skip) (.exit 0))) (.seq (.block 1 (.seq (r172_5) (.seq (r172_6) (r172_7)))) (r172_4))) ∧ KeepS T 172 b172_0 [0, 3, 4] ∧ RR r172_8 [oo 25 (oM 3), oo 2 (oG 25)] ∧ FinF T 172 [.tmp 2] false := by refine ⟨runR T ?_, runR T ?_, runR T ?_, runR T ?_, runR T ?_, runR T ?_, runR T ?_, runR T ?_, runIc T ?_, keepS T ?_, runR T ?_, finI T (F := Tryz.f172) ?_ ?_ ?_⟩ <;> kernel_rfl
@[go_sem] theorem fct229 : Fct T 229 true none false := ⟨by kernel_rfl, by kernel_rfl, by kernel_rfl⟩
@[go_sem] theorem res229 : Res0 T 229 := res0 T (F := Tryz.f229) (by kernel_rfl) (by kernel_rfl)
def r183_0 := nv 2 Tryz.f183
def r183_1 := nv 6 Tryz.f183
def r183_2 := nv 14 Tryz.f183
def r183_3 := nv 30 Tryz.f183
def r183_4 := nv 62 Tryz.f183
theorem ent183 : Ent T 183 19 (.seq (r183_0) (.seq (r183_1) (.seq (r183_2) (.seq (r183_3) (.seq (r183_4) (.ret)))))) := entI T (F := Tryz.f183) (by kernel_rfl) (by kernel_rfl) (by kernel_rfl)
@[go_sem ↓] theorem run183 : RR r183_0 [oo 2 (oi 0)] ∧ RR r183_1 [oo 4 (oM 0), oo 5 (oN 4 28), oo 6 (.makeSlice 28 (.tmp 5) (.tmp 5)), oo 3 (oG 6)] ∧ RR r183_2 [oo 7 (oM 3), oo 8 (oM 0), oo 9 (.call ⟨.builtin .copy, #[.tmp 7, .tmp 8], #[28, 28]⟩)] ∧ RR r183_3 [oo 10 (oM 3), oo 11 (o1 229 10 28)] ∧ RR r183_4 [oo 12 (oM 3), oo 13 (oM 3), oo 14 (oN 13 28), oo 15 (oC .sub 3 14 1), oo 16 (oC .quo 3 15 2), oo 17 (oI 28 12 16), oo 18 (oL 3 17), oo 2 (oG 18)] ∧ FinF T 183 [.tmp 2] false := by refine ⟨runR T ?_, runR T ?_, runR T ?_, runR T ?_, runR T ?_, finI T (F := Tryz.f183) ?_ ?_ ?_⟩ <;> kernel_rfl
def r184_0 := nv 2 Tryz.f184
def r184_1 := nv 6 Tryz.f184
def r184_2 := nv 28 Tryz.f184
def b184_0 := nv 116 Tryz.f184
def r184_3 := nv 232 Tryz.f184
def r184_4 := nv 3736 Tryz.f184
def r184_5 := nv 3737 Tryz.f184
def r184_6 := nv 935 Tryz.f184
def r184_7 := nv 30 Tryz.f184
theorem ent184 : Ent T 184 22 (.seq (r184_0) (.seq (r184_1) (.seq (.seq (r184_2) (.block 0 (.loop b184_0))) (.seq (r184_7) (.ret))))) := entI T (F := Tryz.f184) (by kernel_rfl) (by kernel_rfl) (by kernel_rfl)
@[go_sem ↓] theorem run184 : RR r184_0 [oo 4 on] ∧ RR r184_1 [oo 5 on] ∧ RR r184_2 [oo 8 (oM 0), oo 9 (oN 8 22), oo 10 (.move (.const (.int .i64 0)))] ∧ RR r184_3 [oo 11 (oB .lss 3 10 9)] ∧ RR r184_4 [oo 12 (oI 22 8 10), oo 13 (oL 28 12), oo 7 (oG 13)] ∧ RR r184_5 [oo 14 (oM 5), oo 15 (oM 1), oo 16 (oM 7), oo 17 (.call ⟨.value (.tmp 15), #[.tmp 16], #[28]⟩), oo 18 (oS 28 17), oo 19 (oA 14 18 28), oo 5 (oG 19)] ∧ RR r184_6 [oo 20 (oC .add 3 10 1), oo 10 (oM 20)] ∧ RI b184_0 (.seq (r184_3) (.seq (.cond (.tmp 11) (.skip) (.exit 0)) (.seq (.block 1 (.seq (r184_4) (r184_5))) (r184_6)))) ∧ KeepS T 184 b184_0 [1, 5, 8, 9, 10] ∧ RR r184_7 [oo 21 (oM 5), oo 4 (oG 21)] ∧ FinF T 184 [.tmp 4] false := by refine ⟨runR T ?_, runR T ?_, runR T ?_, runR T ?_, runR T ?_, runR T ?_, runR T ?_, runIc T ?_, keepS T ?_, runR T ?_, finI T (F := Tryz.f184) ?_ ?_ ?_⟩ <;> kernel_rfl
def r185_0 := nv 2 Tryz.f185
def r185_1 := nv 6 Tryz.f185
theorem ent185 : Ent T 185 8 (.seq (r185_0) (.seq (r185_1) (.ret))) := entI T (F := Tryz.f185) (by kernel_rfl) (by kernel_rfl) (by kernel_rfl)
@[go_sem ↓] theorem run185 : RR r185_0 [oo 3 (oi 0)] ∧ RR r185_1 [oo 4 (oM 0), oo 5 (oL 3 1), oo 6 (oI 28 4 5), oo 7 (oL 3 6), oo 3 (oG 7)] ∧ FinF T 185 [.tmp 3] false := by refine ⟨runR T ?_, runR T ?_, finI T (F := Tryz.f185) ?_ ?_ ?_⟩ <;> kernel_rfl
def r186_0 := nv 2 Tryz.f186
def r186_1 := nv 6 Tryz.f186
def r186_2 := nv 28 Tryz.f186
def b186_0 := nv 116 Tryz.f186
def r186_3 := nv 232 Tryz.f186
def r186_4 := nv 3736 Tryz.f186
def r186_5 := nv 3737 Tryz.f186
def r186_6 := nv 935 Tryz.f186
def r186_7 := nv 30 Tryz.f186
theorem ent186 : Ent T 186 22 (.seq (r186_0) (.seq (r186_1) (.seq (.seq (r186_2) (.block 0 (.loop b186_0))) (.seq (r186_7) (.ret))))) := entI T (F := Tryz.f186) (by kernel_rfl) (by kernel_rfl) (by kernel_rfl)
@[go_sem ↓] theorem run186 : RR r186_0 [oo 4 on] ∧ RR r186_1 [oo 5 on] ∧ RR r186_2 [oo 8 (oM 0), oo 9 (oN 8 22), oo 10 (.move (.const (.int .i64 0)))] ∧ RR r186_3 [oo 11 (oB .lss 3 10 9)] ∧ RR r186_4 [oo 12 (oI 22 8 10), oo 13 (oL 28 12), oo 7 (oG 13)] ∧ RR r186_5 [oo 14 (oM 5), oo 15 (oM 1), oo 16 (oM 7), oo 17 (.call ⟨.value (.tmp 15), #[.tmp 16], #[28]⟩), oo 18 (oS 22 17), oo 19 (oA 14 18 22), oo 5 (oG 19)] ∧ RR r186_6 [oo 20 (oC .add 3 10 1), oo 10 (oM 20)] ∧ RI b186_0 (.seq (r186_3) (.seq (.cond (.tmp 11) (.skip) (.exit 0)) (.seq (.block 1 (.seq (r186_4) (r186_5))) (r186_6)))) ∧ KeepS T 186 b186_0 [1, 5, 8, 9, 10] ∧ RR r186_7 [oo 21 (oM 5), oo 4 (oG 21)] ∧ FinF T 186 [.tmp 4] false := by refine ⟨runR T ?_, runR T ?_, runR T ?_, runR T ?_, runR T ?_, runR T ?_, runR T ?_, runIc T ?_, keepS T ?_, runR T ?_, finI T (F := Tryz.f186) ?_ ?_ ?_⟩ <;> kernel_rfl
def r187_0 := nv 2 Tryz.f187
def r187_1 := nv 6 Tryz.f187
def r187_2 := nv 28 Tryz.f187
def b187_0 := nv 116 Tryz.f187
def r187_3 := nv 232 Tryz.f187
def r187_4 := nv 3736 Tryz.f187
def r187_5 := nv 3737 Tryz.f187
def r187_6 := nv 935 Tryz.f187
def r187_7 := nv 30 Tryz.f187
theorem ent187 : Ent T 187 25 (.seq (r187_0) (.seq (r187_1) (.seq (.seq (r187_2) (.block 0 (.loop b187_0))) (.seq (r187_7) (.ret))))) := entI T (F := Tryz.f187) (by kernel_rfl) (by kernel_rfl) (by kernel_rfl)
@[go_sem ↓] theorem run187 : RR r187_0 [oo 3 on] ∧ RR r187_1 [oo 4 on] ∧ RR r187_2 [oo 7 (oM 0), oo 8 (oN 7 28), oo 9 (.move (.const (.int .i64 0)))] ∧ RR r187_3 [oo 10 (oB .lss 3 9 8)] ∧ RR r187_4 [oo 11 (oM 9), oo 12 (oI 28 7 9), oo 13 (oL 3 12), oo 5 (oG 11), oo 6 (oG 13)] ∧ RR r187_5 [oo 14 (oM 4), oo 15 (oL 28 1), oo 16 (oM 5), oo 17 (oI 28 15 16), oo 18 (oL 3 17), oo 19 (oM 6), oo 20 (oB .sub 3 18 19), oo 21 (oS 28 20), oo 22 (oA 14 21 28), oo 4 (oG 22)] ∧ RR r187_6 [oo 23 (oC .add 3 9 1), oo 9 (oM 23)] ∧ RI b187_0 (.seq (r187_3) (.seq (.cond (.tmp 10) (.skip) (.exit 0)) (.seq (.block 1 (.seq (r187_4) (r187_5))) (r187_6)))) ∧ KeepS T 187 b187_0 [1, 4, 7, 8, 9] ∧ RR r187_7 [oo 24 (oM 4), oo 3 (oG 24)] ∧ FinF T 187 [.tmp 3] false := by refine ⟨runR T ?_, runR T ?_, runR T ?_, runR T ?_, runR T ?_, runR T ?_, runR T ?_, runIc T ?_, keepS T ?_, runR T ?_, finI T (F := Tryz.f187) ?_ ?_ ?_⟩ <;> kernel_rfl
@[go_sem] theorem fr230 : Fct T 230 false none false ∧ Res1 T 230 4 := by refine ⟨⟨?_, ?_, ?_⟩, res1 T (F := Tryz.f230) ?_ ?_⟩ <;> kernel_rfl
def r188_0 := nv 2 Tryz.f188
def r188_1 := nv 6 Tryz.f188
theorem ent188 : Ent T 188 7 (.seq (r188_0) (.seq (r188_1) (.ret))) := entI T (F := Tryz.f188) (by kernel_rfl) (by kernel_rfl) (by kernel_rfl)
@[go_sem ↓] theorem run188 : RR r188_0 [oo 2 (oi 0)] ∧ RR r188_1 [oo 3 (oM 0), oo 4 (o1 230 3 9), oo 5 (.unOp .not 4 (.tmp 4)), oo 6 (.call ⟨.value (.func 39), #[.tmp 5, .const (.int .i64 8)], #[4, 3]⟩), oo 2 (oG 6)] ∧ FinF T 188 [.tmp 2] false := by refine ⟨runR T ?_, runR T ?_, finI T (F := Tryz.f188) ?_ ?_ ?_⟩ <;> kernel_rfl
def r189_0 := nv 2 Tryz.f189
def r189_1 := nv 12 Tryz.f189
def b189_0 := nv 52 Tryz.f189
def r189_2 := nv 208 Tryz.f189
def r189_4 := nv 840 Tryz.f189
def r189_5 := nv 3364 Tryz.f189
def r189_3 := nv 211 Tryz.f189
def r189_6 := nv 14 Tryz.f189
theorem ent189 : Ent T 189 20 (.seq (r189_0) (.seq (.seq (r189_1) (.block 0 (.loop b189_0))) (.seq (r189_6) (.ret)))) := entI T (F := Tryz.f189) (by kernel_rfl) (by kernel_rfl) (by kernel_rfl)
@[go_sem ↓] theorem run189 : RR r189_0 [oo 4 (oi 0)] ∧ RR r189_1 [oo 5 (oi 0)] ∧ RR r189_2 [oo 6 (oM 5), oo 7 (oM 0), oo 8 (oN 7 23), oo 9 (oB .lss 3 6 8)] ∧ RR r189_4 [oo 12 (oM 0), oo 13 (oM 5), oo 14 (oI 23 12 13), oo 15 (oF 140 14 0), oo 16 (oL 9 15), oo 17 (oM 1), oo 18 (oB .eql 9 16 17)] ∧ RR r189_5 [oo 19 (oM 5), oo 4 (oG 19)] ∧ RR r189_3 [oo 10 (oM 5), oo 11 (oC .add 3 10 1), oo 5 (oG 11)] ∧ RI b189_0 (.seq (.seq (r189_2) (.cond (.tmp 9) (.skip) (.exit 0))) (.seq (.block 1 (.seq (r189_4) (.cond (.tmp 18) (.seq (r189_5) (.ret)) (.skip)))) (r189_3))) ∧ KeepS T 189 b189_0 [0, 1, 5] ∧ RR r189_6 [oo 4 (oi (-1))] ∧ FinF T 189 [.tmp 4] false := by refine ⟨runR T ?_, runR T ?_, runR T ?_, runR T ?_, runR T ?_, runR T ?_, runIc T ?_, keepS T ?_, runR T ?_, finI T (F := Tryz.f189) ?_ ?_ ?_⟩ <;> kernel_rfl
def r190_0 := nv 2 Tryz.f190
def r190_1 := nv 12 Tryz.f190
def b190_0 := nv 52 Tryz.f190
def r190_2 := nv 104 Tryz.f190
def r190_3 := nv 844 Tryz.f190
def r190_4 := nv 1690 Tryz.f190
def r190_5 := nv 3382 Tryz.f190
def r190_6 := nv 13532 Tryz.f190
def r190_7 := nv 14 Tryz.f190
theorem ent190 : Ent T 190 51 (.seq (r190_0) (.seq (.seq (r190_1) (.block 0 (.loop b190_0))) (.seq (r190_7) (.ret)))) := entI T (F := Tryz.f190) (by kernel_rfl) (by kernel_rfl) (by kernel_rfl)
@[go_sem ↓] theorem run190 : RR r190_0 [oo 2 (.assign (.const (.bool false)))] ∧ RR r190_1 [oo 6 (oM 0), oo 7 (.range 9 (.tmp 6))] ∧ RR r190_2 [oo 8 (.next (.tmp 7) true), oo 9 (oX 8 0)] ∧ RR r190_3 [oo 10 (oX 8 1), oo 11 (oX 8 2), oo 3 (oG 10), oo 4 (oG 11)] ∧ RR r190_4 [oo 12 (oM 4), oo 13 (.binOp .geq 21 (.tmp 12) (.const (.int .i32 97)) 21), oo 14 (oM 13), ot 15 (oM 4) 14, ot 16 (.binOp .leq 21 (.tmp 15) (.const (.int .i32 122)) 21) 14, oo 17 (.pick (.tmp 14) (.tmp 16) (.const (.bool false))), oo 18 (oM 17), of 19 (oM 4) 18, of 20 (.binOp .geq 21 (.tmp 19) (.const (.int .i32 65)) 21) 18, of 21 (oM 20) 18, ot 22 (oM 4) 21, ot 23 (.binOp .leq 21 (.tmp 22) (.const (.int .i32 90)) 21) 21, of 24 (.pick (.tmp 21) (.tmp 23) (.const (.bool false))) 18, oo 25 (.pick (.tmp 18) (.const (.bool true)) (.tmp 24)), oo 5 (oG 25)] ∧ RR r190_5 [oo 26 (oM 5), oo 27 (.unOp .not 4 (.tmp 26)), oo 28 (oM 27), ot 29 (oM 3) 28, ot 30 (oC .eql 3 29 0) 28, ot 31 (oM 30) 28, of 32 (oM 4) 31, of 33 (.binOp .neq 21 (.tmp 32) (.const (.int .i32 95)) 21) 31, of 34 (oM 33) 31, ot 35 (oM 4) 34, ot 36 (.binOp .lss 21 (.tmp 35) (.const (.int .i32 48)) 21) 34, ot 37 (oM 36) 34, of 38 (oM 4) 37, of 39 (.binOp .gtr 21 (.tmp 38) (.const (.int .i32 57)) 21) 37, ot 40 (.pick (.tmp 37) (.const (.bool true)) (.tmp 39)) 34, of 41 (.pick (.tmp 34) (.tmp 40) (.const (.bool false))) 31, ot 42 (.pick (.tmp 31) (.const (.bool true)) (.tmp 41)) 28, oo 43 (.pick (.tmp 28) (.tmp 42) (.const (.bool false)))] ∧ RR r190_6 [oo 2 (.assign (.const (.bool false)))] ∧ RI b190_0 (.seq (r190_2) (.seq (.cond (.tmp 9) (.skip) (.exit 0)) (.block 1 (.seq (r190_3) (.seq (r190_4) (.seq (r190_5) (.cond (.tmp 43) (.seq (r190_6) (.ret)) (.skip)))))))) ∧ KeepS T 190 b190_0 [0, 7] ∧ RR r190_7 [oo 44 (oM 0), oo 45 (.binOp .neq 9 (.tmp 44) (.const (.string ⟨#[]⟩)) 9), oo 46 (oM 45), ot 47 (oM 0) 46, ot 48 (oN 47 9) 46, ot 49 (oC .leq 3 48 24) 46, oo 50 (.pick (.tmp 46) (.tmp 49) (.const (.bool false))), oo 2 (oG 50)] ∧ FinF T 190 [.tmp 2] false := by refine ⟨runR T ?_, runR T ?_, runR T ?_, runR T ?_, runR T ?_, runR T ?_, runR T ?_, runIc T ?_, keepS T ?_, runR T ?_, finI T (F := Tryz.f190) ?_ ?_ ?_⟩ <;> kernel_rfl
def r191_0 := nv 2 Tryz.f191
def r191_1 := nv 6 Tryz.f191
theorem ent191 : Ent T 191 16 (.seq (r191_0) (.seq (r191_1) (.ret))) := entI T (F := Tryz.f191) (by kernel_rfl) (by kernel_rfl) (by kernel_rfl)
@[go_sem ↓] theorem run191 : RR r191_0 [oo 1 (.box 180 (.tmp 0)), oo 2 (oi 0)] ∧ RD r191_1 191 [oo 3 (oF 180 1 1), oo 4 (oL 3 3), oo 5 (.call ⟨.value (.func 137), #[.tmp 4, .const (.int .i64 0), .const (.int .i64 7)], #[3, 3, 3]⟩), oo 6 (oF 180 1 2), oo 7 (oL 72 6), oo 8 (oN 7 72), oo 9 (.call ⟨.value (.func 112), #[.tmp 8, .const (.int .i64 8)], #[3, 3]⟩), oo 10 (oF 180 1 2), oo 11 (oL 72 10), oo 12 (.call ⟨.value (.func 145), #[.tmp 11, .func 146], #[72, 219]⟩), oo 13 (o1 114 12 187), oo 14 (.buildSlice 187 3 #[(0, .tmp 5), (1, .tmp 9), (2, .tmp 13)]), oo 15 (o1 114 14 187), oo 2 (oG 15)] [(0, 3), (1, 3), (2, 3), (0, 4), (1, 4), (2, 4), (0, 5), (1, 5), (2, 5), (0, 7), (1, 7), (2, 7), (3, 7), (4, 7), (5, 7), (6, 7), (0, 8), (1, 8), (2, 8), (3, 8), (4, 8), (5, 8), (6, 8)] ∧ FinF T 191 [.tmp 2] false := by refine ⟨runR T ?_, runD T (id := 1) ?_ ?_, finI T (F := Tryz.f191) ?_ ?_ ?_⟩ <;> kernel_rfl
def r212_0 := nv 2 Tryz.f212
def r212_1 := nv 6 Tryz.f212
theorem ent212 : Ent T 212 25 (.seq (r212_0) (.seq (r212_1) (.ret))) := entI T (F := Tryz.f212) (by kernel_rfl) (by kernel_rfl) (by kernel_rfl)
@[go_sem ↓] theorem run212 : RR r212_0 [oo 3 (.box 142 (.tmp 0)), oo 6 (oi 0)] ∧ RD r212_1 212 [oo 7 (oF 142 3 0), oo 8 (oL 3 7), oo 9 (oM 1), oo 10 (oM 2), oo 11 (.call ⟨.value (.func 90), #[.tmp 8, .tmp 9, .tmp 10], #[3, 3, 3]⟩), oo 12 (oF 142 3 1), oo 13 (oL 3 12), oo 14 (oM 1), oo 15 (oM 2), oo 16 (.call ⟨.value (.func 90), #[.tmp 13, .tmp 14, .tmp 15], #[3, 3, 3]⟩), oo 17 (oF 142 3 0), oo 18 (oL 3 17), oo 19 (oF 142 3 1), oo 20 (oL 3 19), oo 21 (oB .gtr 3 18 20), oo 22 (.call ⟨.value (.func 39), #[.tmp 21, .const (.int .i64 11)], #[4, 3]⟩), oo 23 (.buildSlice 28 3 #[(0, .tmp 11), (1, .tmp 16), (2, .tmp 22)]), oo 24 (o1 108 23 28), oo 6 (oG 24)] [(0, 2), (1, 2), (0, 3), (1, 3), (2, 3), (0, 5), (1, 5), (2, 5), (3, 5), (4, 5), (0, 6), (1, 6), (2, 6), (3, 6), (4, 6), (0, 7), (1, 7), (2, 7), (3, 7), (4, 7), (5, 7), (6, 7), (0, 8), (1, 8), (2, 8), (3, 8), (4, 8), (5, 8), (6, 8), (7, 8), (0, 10), (1, 10), (2, 10), (3, 10), (4, 10), (5, 10), (6, 10), (7, 10), (8, 10), (9, 10), (0, 11), (1, 11), (2, 11), (3, 11), (4, 11), (5, 11), (6, 11), (7, 11), (8, 11), (9, 11), (0, 12), (1, 12), (2, 12), (3, 12), (4, 12), (5, 12), (6, 12), (7, 12), (8, 12), (9, 12), (10, 12), (11, 12), (0, 13), (1, 13), (2, 13), (3, 13), (4, 13), (5, 13), (6, 13), (7, 13), (8, 13), (9, 13), (10, 13), (11, 13), (0, 14), (1, 14), (2, 14), (3, 14), (4, 14), (5, 14), (6, 14), (7, 14), (8, 14), (9, 14)] ∧ FinF T 212 [.tmp 6] false := by refine ⟨runR T ?_, runD T (id := 1) ?_ ?_, finI T (F := Tryz.f212) ?_ ?_ ?_⟩ <;> kernel_rfl
@[go_sem] theorem fr233 : Fct T 233 false none false ∧ Res1 T 233 3 := by refine ⟨⟨?_, ?_, ?_⟩, res1 T (F := Tryz.f233) ?_ ?_⟩ <;> kernel_rfl
@[go_sem] theorem fct247 : Fct T 247 true none false := ⟨by kernel_rfl, by kernel_rfl, by kernel_rfl⟩
@[go_sem] theorem res247 : Res0 T 247 := res0 T (F := Tryz.f247) (by kernel_rfl) (by kernel_rfl)
def r229_0 := nv 2 Tryz.f229
def r229_1 := nv 3 Tryz.f229
theorem ent229 : Ent T 229 11 (.seq (r229_0) (r229_1)) := entI T (F := Tryz.f229) (by kernel_rfl) (by kernel_rfl) (by kernel_rfl)
@[go_sem ↓] theorem run229 : RR r229_0 [oo 3 (oM 0), oo 4 (oN 3 28), oo 2 (oG 4)] ∧ RR r229_1 [oo 5 (oM 0), oo 6 (oM 2), oo 7 (oM 2), oo 8 (.convert 3 308 (.tmp 7)), oo 9 (o1 233 8 308), oo 10 (.call ⟨.value (.func 247), #[.tmp 5, .const (.int .i64 0), .tmp 6, .tmp 9], #[28, 3, 3, 3]⟩)] ∧ FinF T 229 [] true := by refine ⟨runR T ?_, runR T ?_, finI T (F := Tryz.f229) ?_ ?_ ?_⟩ <;> kernel_rfl
def r230_0 := nv 2 Tryz.f230
def r230_1 := nv 12 Tryz.f230
def r230_2 := nv 52 Tryz.f230
def r230_3 := nv 28 Tryz.f230
def b230_0 := nv 116 Tryz.f230
def r230_4 := nv 464 Tryz.f230
def r230_6 := nv 1864 Tryz.f230
def r230_7 := nv 3730 Tryz.f230
def r230_8 := nv 7462 Tryz.f230
def r230_9 := nv 29852 Tryz.f230
def r230_5 := nv 467 Tryz.f230
def r230_10 := nv 30 Tryz.f230
theorem ent230 : Ent T 230 68 (.seq (r230_0) (.seq (.seq (r230_1) (.cond (.tmp 13) (.seq (r230_2) (.ret)) (.skip))) (.seq (.seq (r230_3) (.block 0 (.loop b230_0))) (.seq (r230_10) (.ret))))) := entI T (F := Tryz.f230) (by kernel_rfl) (by kernel_rfl) (by kernel_rfl)
@[go_sem ↓] theorem run230 : RR r230_0 [oo 2 (.assign (.const (.bool false)))] ∧ RR r230_1 [oo 6 (oM 0), oo 7 (oN 6 9), oo 8 (oC .eql 3 7 0), oo 9 (oM 8), of 10 (oM 0) 9, of 11 (oN 10 9) 9, of 12 (oC .gtr 3 11 24) 9, oo 13 (.pick (.tmp 9) (.const (.bool true)) (.tmp 12))] ∧ RR r230_2 [oo 2 (.assign (.const (.bool false)))] ∧ RR r230_3 [oo 3 (oi 0)] ∧ RR r230_4 [oo 14 (oM 3), oo 15 (oM 0), oo 16 (oN 15 9), oo 17 (oB .lss 3 14 16)] ∧ RR r230_6 [oo 20 (oM 0), oo 21 (oM 3), oo 22 (.index 9 (.tmp 20) (.tmp 21)), oo 23 (.binOp .geq 5 (.tmp 22) (.const (.int .u8 65)) 5), oo 24 (oM 23), ot 25 (oM 0) 24, ot 26 (oM 3) 24, ot 27 (.index 9 (.tmp 25) (.tmp 26)) 24, ot 28 (.binOp .leq 5 (.tmp 27) (.const (.int .u8 90)) 5) 24, oo 29 (.pick (.tmp 24) (.tmp 28) (.const (.bool false))), oo 30 (oM 29), of 31 (oM 0) 30, of 32 (oM 3) 30, of 33 (.index 9 (.tmp 31) (.tmp 32)) 30, of 34 (.binOp .geq 5 (.tmp 33) (.const (.int .u8 97)) 5) 30, of 35 (oM 34) 30, ot 36 (oM 0) 35, ot 37 (oM 3) 35, ot 38 (.index 9 (.tmp 36) (.tmp 37)) 35, ot 39 (.binOp .leq 5 (.tmp 38) (.const (.int .u8 122)) 5) 35, of 40 (.pick (.tmp 35) (.tmp 39) (.const (.bool false))) 30, oo 41 (.pick (.tmp 30) (.const (.bool true)) (.tmp 40)), oo 4 (oG 41)] ∧ RR r230_7 [oo 42 (oM 0), oo 43 (oM 3), oo 44 (.index 9 (.tmp 42) (.tmp 43)), oo 45 (.binOp .geq 5 (.tmp 44) (.const (.int .u8 48)) 5), oo 46 (oM 45), ot 47 (oM 0) 46, ot 48 (oM 3) 46, ot 49 (.index 9 (.tmp 47) (.tmp 48)) 46, ot 50 (.binOp .leq 5 (.tmp 49) (.const (.int .u8 57)) 5) 46, oo 51 (.pick (.tmp 46) (.tmp 50) (.const (.bool false))), oo 52 (oM 51), of 53 (oM 0) 52, of 54 (oM 3) 52, of 55 (.index 9 (.tmp 53) (.tmp 54)) 52, of 56 (.binOp .eql 5 (.tmp 55) (.const (.int .u8 95)) 5) 52, oo 57 (.pick (.tmp 52) (.const (.bool true)) (.tmp 56)), oo 5 (oG 57)] ∧ RR r230_8 [oo 58 (oM 4), oo 59 (.unOp .not 4 (.tmp 58)), oo 60 (oM 59), ot 61 (oM 3) 60, ot 62 (oC .eql 3 61 0) 60, ot 63 (oM 62) 60, of 64 (oM 5) 63, of 65 (.unOp .not 4 (.tmp 64)) 63, ot 66 (.pick (.tmp 63) (.const (.bool true)) (.tmp 65)) 60, oo 67 (.pick (.tmp 60) (.tmp 66) (.const (.bool false)))] ∧ RR r230_9 [oo 2 (.assign (.const (.bool false)))] ∧ RR r230_5 [oo 18 (oM 3), oo 19 (oC .add 3 18 1), oo 3 (oG 19)] ∧ RI b230_0 (.seq (.seq (r230_4) (.cond (.tmp 17) (.skip) (.exit 0))) (.seq (.block 1 (.seq (r230_6) (.seq (r230_7) (.seq (r230_8) (.cond (.tmp 67) (.seq (r230_9) (.ret)) (.skip)))))) (r230_5))) ∧ KeepS T 230 b230_0 [0, 3] ∧ RR r230_10 [oo 2 (.assign (.const (.bool true)))] ∧ FinF T 230 [.tmp 2] false := by refine ⟨runR T ?_, runR T ?_, runR T ?_, runR T ?_, runR T ?_, runR T ?_, runR T ?_, runR T ?_, runR T ?_, runR T ?_, runIc T ?_, keepS T ?_, runR T ?_, finI T (F := Tryz.f230) ?_ ?_ ?_⟩ <;> kernel_rfl
@[go_sem] theorem fct269 : Fct T 269 true none false := ⟨by kernel_rfl, by kernel_rfl, by kernel_rfl⟩
@[go_sem] theorem res269 : Res0 T 269 := res0 T (F := Tryz.f269) (by kernel_rfl) (by kernel_rfl)
@[go_sem] theorem fr270 : Fct T 270 true none false ∧ Res0 T 270 := by refine ⟨⟨?_, ?_, ?_⟩, res0 T (F := Tryz.f270) ?_ ?_⟩ <;> kernel_rfl
@[go_sem] theorem fr271 : Fct T 271 true none false ∧ Res0 T 271 := by refine ⟨⟨?_, ?_, ?_⟩, res0 T (F := Tryz.f271) ?_ ?_⟩ <;> kernel_rfl
@[go_sem] theorem fr272 : Fct T 272 true none false ∧ Res2 T 272 3 320 [] := by refine ⟨⟨?_, ?_, ?_⟩, res2 T (F := Tryz.f272) ?_ ?_⟩ <;> kernel_rfl
@[go_sem] theorem fr273 : Fct T 273 true none false ∧ Res0 T 273 := by refine ⟨⟨?_, ?_, ?_⟩, res0 T (F := Tryz.f273) ?_ ?_⟩ <;> kernel_rfl
@[go_sem] theorem fr274 : Fct T 274 true none false ∧ Res1 T 274 4 := by refine ⟨⟨?_, ?_, ?_⟩, res1 T (F := Tryz.f274) ?_ ?_⟩ <;> kernel_rfl
@[go_sem] theorem fr275 : Fct T 275 false none false ∧ Res1 T 275 4 := by refine ⟨⟨?_, ?_, ?_⟩, res1 T (F := Tryz.f275) ?_ ?_⟩ <;> kernel_rfl
@[go_sem] theorem fr276 : Fct T 276 true none false ∧ Res1 T 276 3 := by refine ⟨⟨?_, ?_, ?_⟩, res1 T (F := Tryz.f276) ?_ ?_⟩ <;> kernel_rfl
@[go_sem] theorem fr277 : Fct T 277 true none false ∧ Res2 T 277 3 4 [] := by refine ⟨⟨?_, ?_, ?_⟩, res2 T (F := Tryz.f277) ?_ ?_⟩ <;> kernel_rfl
def r247_0 := nv 2 Tryz.f247
def r247_1 := nv 6 Tryz.f247
def b247_0 := nv 28 Tryz.f247
def r247_2 := nv 112 Tryz.f247
def r247_3 := nv 452 Tryz.f247
def r247_4 := nv 1812 Tryz.f247
def r247_5 := nv 908 Tryz.f247
def r247_6 := nv 3636 Tryz.f247
def r247_7 := nv 1820 Tryz.f247
def r247_8 := nv 7284 Tryz.f247
def r247_9 := nv 7285 Tryz.f247
def r247_10 := nv 1822 Tryz.f247
def r247_11 := nv 7292 Tryz.f247
def r247_12 := nv 29172 Tryz.f247
def r247_13 := nv 58346 Tryz.f247
def r247_14 := nv 58347 Tryz.f247
def r247_15 := nv 14588 Tryz.f247
def r247_16 := nv 58356 Tryz.f247
def r247_17 := nv 29180 Tryz.f247
def r247_18 := nv 116724 Tryz.f247
def r247_19 := nv 233450 Tryz.f247
def r247_20 := nv 29182 Tryz.f247
def r247_21 := nv 58366 Tryz.f247
def r247_22 := nv 116734 Tryz.f247
def r247_23 := nv 233470 Tryz.f247
def r247_24 := nv 466942 Tryz.f247
def r247_25 := nv 1867772 Tryz.f247
def r247_26 := nv 3735546 Tryz.f247
def r247_27 := nv 3735547 Tryz.f247
def r247_28 := nv 1867774 Tryz.f247
def r247_29 := nv 3735550 Tryz.f247
def r247_30 := nv 3735551 Tryz.f247
theorem ent247 : Ent T 247 134 (.seq (r247_0) (.seq (r247_1) (.block 0 (.loop b247_0)))) := entI T (F := Tryz.f247) (by kernel_rfl) (by kernel_rfl) (by kernel_rfl)
@[go_sem ↓] theorem run247 : RR r247_0 [oo 8 (.assign (.const (.bool true)))] ∧ RR r247_1 [oo 9 (.assign (.const (.bool true)))] ∧ RR r247_2 [oo 19 (oM 2), oo 20 (oM 1), oo 21 (oB .sub 3 19 20), oo 10 (oG 21)] ∧ RR r247_3 [oo 22 (oM 10), oo 23 (oC .leq 3 22 12)] ∧ RR r247_4 [oo 24 (oM 0), oo 25 (oM 1), oo 26 (oM 2), oo 27 (.call ⟨.value (.func 269), #[.tmp 24, .tmp 25, .tmp 26], #[28, 3, 3]⟩)] ∧ RR r247_5 [oo 28 (oM 3), oo 29 (oC .eql 3 28 0)] ∧ RR r247_6 [oo 30 (oM 0), oo 31 (oM 1), oo 32 (oM 2), oo 33 (.call ⟨.value (.func 270), #[.tmp 30, .tmp 31, .tmp 32], #[28, 3, 3]⟩)] ∧ RR r247_7 [oo 34 (oM 8), oo 35 (.unOp .not 4 (.tmp 34))] ∧ RR r247_8 [oo 36 (oM 0), oo 37 (oM 1), oo 38 (oM 2), oo 39 (.call ⟨.value (.func 271), #[.tmp 36, .tmp 37, .tmp 38], #[28, 3, 3]⟩)] ∧ RR r247_9 [oo 40 (oM 3), oo 41 (oC .sub 3 40 1), oo 3 (oG 41)] ∧ RR r247_10 [oo 43 (oM 0), oo 44 (oM 1), oo 45 (oM 2), oo 46 (.call ⟨.value (.func 272), #[.tmp 43, .tmp 44, .tmp 45], #[28, 3, 3]⟩), oo 42 (oM 46), oo 47 (oX 42 0), oo 48 (oX 42 1), oo 11 (oG 47), oo 12 (oG 48)] ∧ RR r247_11 [oo 49 (oM 12), oo 50 (oC .eql 320 49 2)] ∧ RR r247_12 [oo 51 (oM 0), oo 52 (oM 1), oo 53 (oM 2), oo 54 (.call ⟨.value (.func 273), #[.tmp 51, .tmp 52, .tmp 53], #[28, 3, 3]⟩)] ∧ RR r247_13 [oo 55 (oM 2), oo 56 (oC .sub 3 55 1), oo 57 (oM 11), oo 58 (oM 1), oo 59 (oB .sub 3 57 58), oo 60 (oB .sub 3 56 59), oo 11 (oG 60)] ∧ RR r247_14 [oo 12 (oi 1)] ∧ RR r247_15 [oo 61 (oM 8), oo 62 (oM 61), ot 63 (oM 9) 62, oo 64 (.pick (.tmp 62) (.tmp 63) (.const (.bool false))), oo 65 (oM 64), ot 66 (oM 12) 65, ot 67 (oC .eql 320 66 1) 65, oo 68 (.pick (.tmp 65) (.tmp 67) (.const (.bool false)))] ∧ RR r247_16 [oo 69 (oM 0), oo 70 (oM 1), oo 71 (oM 2), oo 72 (.call ⟨.value (.func 274), #[.tmp 69, .tmp 70, .tmp 71], #[28, 3, 3]⟩)] ∧ RD r247_17 247 [oo 73 (oM 1), oo 74 (oC .gtr 3 73 0), oo 75 (oM 74), ot 76 (oM 0) 75, ot 77 (oM 1) 75, ot 78 (oC .sub 3 77 1) 75, ot 79 (oI 28 76 78) 75, ot 80 (oL 3 79) 75, ot 81 (oM 0) 75, ot 82 (oM 11) 75, ot 83 (oI 28 81 82) 75, ot 84 (oL 3 83) 75, ot 85 (o2 275 80 84 3 3) 75, ot 86 (.unOp .not 4 (.tmp 85)) 75, oo 87 (.pick (.tmp 75) (.tmp 86) (.const (.bool false)))] [(3, 4), (3, 5), (3, 8), (4, 8), (5, 8), (6, 8), (7, 8), (3, 9), (4, 9), (5, 9), (6, 9), (7, 9), (8, 9), (3, 10), (4, 10), (5, 10), (6, 10), (7, 10), (3, 11), (4, 11), (5, 11), (6, 11), (7, 11)] ∧ RR r247_18 [oo 88 (oM 0), oo 89 (oM 1), oo 90 (oM 2), oo 91 (oM 11), oo 92 (.call ⟨.value (.func 276), #[.tmp 88, .tmp 89, .tmp 90, .tmp 91], #[28, 3, 3, 3]⟩), oo 13 (oG 92)] ∧ RR r247_19 [oo 93 (oM 13), oo 1 (oG 93)] ∧ RR r247_20 [oo 95 (oM 0), oo 96 (oM 1), oo 97 (oM 2), oo 98 (oM 11), oo 99 (.call ⟨.value (.func 277), #[.tmp 95, .tmp 96, .tmp 97, .tmp 98], #[28, 3, 3, 3]⟩), oo 94 (oM 99), oo 100 (oX 94 0), oo 101 (oX 94 1), oo 14 (oG 100), oo 15 (oG 101)] ∧ RR r247_21 [oo 102 (oM 15), oo 9 (oG 102)] ∧ RR r247_22 [oo 103 (oM 14), oo 104 (oM 1), oo 105 (oB .sub 3 103 104), oo 106 (oM 2), oo 107 (oM 14), oo 108 (oB .sub 3 106 107), oo 16 (oG 105), oo 17 (oG 108)] ∧ RR r247_23 [oo 109 (oM 10), oo 110 (oC .quo 3 109 8), oo 18 (oG 110)] ∧ RR r247_24 [oo 111 (oM 16), oo 112 (oM 17), oo 113 (oB .lss 3 111 112)] ∧ RR r247_25 [oo 114 (oM 16), oo 115 (oM 18), oo 116 (oB .geq 3 114 115), oo 8 (oG 116)] ∧ RR r247_26 [oo 117 (oM 0), oo 118 (oM 1), oo 119 (oM 14), oo 120 (oM 3), oo 121 (.call ⟨.value (.func 247), #[.tmp 117, .tmp 118, .tmp 119, .tmp 120], #[28, 3, 3, 3]⟩)] ∧ RR r247_27 [oo 122 (oM 14), oo 123 (oC .add 3 122 1), oo 1 (oG 123)] ∧ RR r247_28 [oo 124 (oM 17), oo 125 (oM 18), oo 126 (oB .geq 3 124 125), oo 8 (oG 126)] ∧ RR r247_29 [oo 127 (oM 0), oo 128 (oM 14), oo 129 (oC .add 3 128 1), oo 130 (oM 2), oo 131 (oM 3), oo 132 (.call ⟨.value (.func 247), #[.tmp 127, .tmp 129, .tmp 130, .tmp 131], #[28, 3, 3, 3]⟩)] ∧ RR r247_30 [oo 133 (oM 14), oo 2 (oG 133)] ∧ RI b247_0 (.block 1 (.seq (r247_2) (.seq (.seq (r247_3) (.cond (.tmp 23) (.seq (r247_4) (.ret)) (.skip))) (.seq (.seq (r247_5) (.cond (.tmp 29) (.seq (r247_6) (.ret)) (.skip))) (.seq (.seq (r247_7) (.cond (.tmp 35) (.seq (r247_8) (r247_9)) (.skip))) (.seq (r247_10) (.seq (.seq (r247_11) (.cond (.tmp 50) (.seq (r247_12) (.seq (r247_13) (r247_14))) (.skip))) (.seq (.seq (r247_15) (.cond (.tmp 68) (.seq (r247_16) (.cond (.tmp 72) (.ret) (.skip))) (.skip))) (.seq (.seq (r247_17) (.cond (.tmp 87) (.seq (r247_18) (.seq (r247_19) (.exit 1))) (.skip))) (.seq (r247_20) (.seq (r247_21) (.seq (r247_22) (.seq (r247_23) (.seq (r247_24) (.cond (.tmp 113) (.seq (r247_25) (.seq (r247_26) (r247_27))) (.seq (r247_28) (.seq (r247_29) (r247_30)))))))))))))))))) ∧ KeepS T 247 b247_0 [0, 1, 2, 3, 8, 9] ∧ FinF T 247 [] true := by refine ⟨runR T ?_, runR T ?_, runR T ?_, runR T ?_, runR T ?_, runR T ?_, runR T ?_, runR T ?_, runR T ?_, runR T ?_, runR T ?_, runR T ?_, runR T ?_, runR T ?_, runR T ?_, runR T ?_, runR T ?_, runD T (id := 17) ?_ ?_, runR T ?_, runR T ?_, runR T ?_, runR T ?_, runR T ?_, runR T ?_, runR T ?_, runR T ?_, runR T ?_, runR T ?_, runR T ?_, runR T ?_, runR T ?_, runIc T ?_, keepS T ?_, finI T (F := Tryz.f247) ?_ ?_ ?_⟩ <;> kernel_rfl
def r269_0 := nv 2 Tryz.f269
def b269_0 := nv 12 Tryz.f269
def r269_1 := nv 48 Tryz.f269
def r269_3 := nv 200 Tryz.f269
def b269_1 := nv 804 Tryz.f269
def r269_4 := nv 3216 Tryz.f269
def r269_6 := nv 6436 Tryz.f269
def r269_5 := nv 3219 Tryz.f269
def r269_2 := nv 51 Tryz.f269
theorem ent269 : Ent T 269 49 (.seq (r269_0) (.block 0 (.loop b269_0))) := entI T (F := Tryz.f269) (by kernel_rfl) (by kernel_rfl) (by kernel_rfl)
@[go_sem ↓] theorem run269 : RR r269_0 [oo 8 (oM 1), oo 9 (oC .add 3 8 1), oo 6 (oG 9)] ∧ RR r269_1 [oo 10 (oM 6), oo 11 (oM 2), oo 12 (oB .lss 3 10 11)] ∧ RR r269_3 [oo 15 (oM 6), oo 7 (oG 15)] ∧ RD r269_4 269 [oo 16 (oM 7), oo 17 (oM 1), oo 18 (oB .gtr 3 16 17), oo 19 (oM 18), ot 20 (oM 0) 19, ot 21 (oM 7) 19, ot 22 (oI 28 20 21) 19, ot 23 (oL 3 22) 19, ot 24 (oM 0) 19, ot 25 (oM 7) 19, ot 26 (oC .sub 3 25 1) 19, ot 27 (oI 28 24 26) 19, ot 28 (oL 3 27) 19, ot 29 (o2 275 23 28 3 3) 19, oo 30 (.pick (.tmp 19) (.tmp 29) (.const (.bool false)))] [(0, 1), (4, 5), (4, 8), (5, 8), (6, 8), (7, 8), (4, 9), (5, 9), (6, 9), (7, 9), (8, 9), (4, 10), (5, 10), (6, 10), (7, 10), (8, 10), (4, 11), (5, 11), (6, 11), (7, 11), (4, 12), (5, 12), (6, 12), (7, 12)] ∧ RD r269_6 269 [oo 33 (oM 0), oo 34 (oM 7), oo 35 (oM 0), oo 36 (oM 7), oo 37 (oC .sub 3 36 1), oo 38 (oM 0), oo 39 (oM 7), oo 40 (oC .sub 3 39 1), oo 41 (oI 28 38 40), oo 42 (oL 3 41), oo 43 (oM 0), oo 44 (oM 7), oo 45 (oI 28 43 44), oo 46 (oL 3 45), oo 47 (oI 28 33 34), ow 3 47 42, oo 48 (oI 28 35 37), ow 3 48 46] [(0, 1), (0, 2), (1, 2), (0, 3), (1, 3), (2, 3), (0, 4), (1, 4), (2, 4), (0, 5), (1, 5), (2, 5), (3, 5), (4, 5), (0, 6), (1, 6), (2, 6), (3, 6), (4, 6), (5, 6), (0, 7), (1, 7), (2, 7), (3, 7), (4, 7), (5, 7), (0, 8), (1, 8), (2, 8), (3, 8), (4, 8), (0, 9), (1, 9), (2, 9), (3, 9), (4, 9), (0, 10), (1, 10), (2, 10), (3, 10), (4, 10), (5, 10), (6, 10), (7, 10), (8, 10), (9, 10), (0, 11), (1, 11), (2, 11), (3, 11), (4, 11), (5, 11), (6, 11), (7, 11), (8, 11), (9, 11), (10, 11), (0, 12), (1, 12), (2, 12), (3, 12), (4, 12), (5, 12), (6, 12), (7, 12), (8, 12), (9, 12), (0, 13), (1, 13), (2, 13), (3, 13), (4, 13), (5, 13), (6, 13), (7, 13), (8, 13), (9, 13), (2, 14), (3, 14), (4, 14), (2, 15), (3, 15), (4, 15)] ∧ RR r269_5 [oo 31 (oM 7), oo 32 (oC .sub 3 31 1), oo 7 (oG 32)] ∧ RI b269_1 (.seq (.seq (r269_4) (.cond (.tmp 30) (.skip) (.exit 2))) (.seq (.block 3 (r269_6)) (r269_5))) ∧ KeepS T 269 b269_1 [0, 1, 2, 6, 7] ∧ RR r269_2 [oo 13 (oM 6), oo 14 (oC .add 3 13 1), oo 6 (oG 14)] ∧ RI b269_0 (.seq (.seq (r269_1) (.cond (.tmp 12) (.skip) (.exit 0))) (.seq (.block 1 (.seq (r269_3) (.block 2 (.loop b269_1)))) (r269_2))) ∧ KeepS T 269 b269_0 [0, 1, 2, 6] ∧ FinF T 269 [] true := by refine ⟨runR T ?_, runR T ?_, runR T ?_, runD T (id := 4) ?_ ?_, runD T (id := 6) ?_ ?_, runR T ?_, runIc T ?_, keepS T ?_, runR T ?_, runIc T ?_, keepS T ?_, finI T (F := Tryz.f269) ?_ ?_ ?_⟩ <;> kernel_rfl
@[go_sem] theorem fr234 : Fct T 234 false none false ∧ Res1 T 234 4 := by refine ⟨⟨?_, ?_, ?_⟩, res1 T (F := Tryz.f234) ?_ ?_⟩ <;> kernel_rfl
def r275_0 := nv 2 Tryz.f275
def r275_1 := nv 6 Tryz.f275
theorem ent275 : Ent T 275 17 (.seq (r275_0) (.seq (r275_1) (.ret))) := entI T (F := Tryz.f275) (by kernel_rfl) (by kernel_rfl) (by kernel_rfl)
@[go_sem ↓] theorem run275 : RR r275_0 [oo 4 (.assign (.const (.bool false)))] ∧ RR r275_1 [oo 5 (oM 0), oo 6 (o1 234 5 3), oo 7 (oM 6), ot 8 (oM 1) 7, ot 9 (o1 234 8 3) 7, ot 10 (.unOp .not 4 (.tmp 9)) 7, oo 11 (.pick (.tmp 7) (.tmp 10) (.const (.bool false))), oo 12 (oM 11), of 13 (oM 0) 12, of 14 (oM 1) 12, of 15 (oB .lss 3 13 14) 12, oo 16 (.pick (.tmp 12) (.const (.bool true)) (.tmp 15)), oo 4 (oG 16)] ∧ FinF T 275 [.tmp 4] false := by refine ⟨runR T ?_, runR T ?_, finI T (F := Tryz.f275) ?_ ?_ ?_⟩ <;> kernel_rfl
def r234_0 := nv 2 Tryz.f234
def r234_1 := nv 6 Tryz.f234
theorem ent234 : Ent T 234 6 (.seq (r234_0) (.seq (r234_1) (.ret))) := entI T (F := Tryz.f234) (by kernel_rfl) (by kernel_rfl) (by kernel_rfl)
@[go_sem ↓] theorem run234 : RR r234_0 [oo 2 (.assign (.const (.bool false)))] ∧ RR r234_1 [oo 3 (oM 0), oo 4 (oM 0), oo 5 (oB .neq 3 3 4), oo 2 (oG 5)] ∧ FinF T 234 [.tmp 2] false := by refine ⟨runR T ?_, runR T ?_, finI T (F := Tryz.f234) ?_ ?_ ?_⟩ <;> kernel_rfl
@[go_sem] theorem fr27 : Fct T 27 false none false ∧ Res1 T 27 28 := by refine ⟨⟨?_, ?_, ?_⟩, res1 T (F := Tryz.f27) ?_ ?_⟩ <;> kernel_rfl
@[go_sem] theorem fr29 : Fct T 29 false none false ∧ Res2 T 29 4 29 [] := by refine ⟨⟨?_, ?_, ?_⟩, res2 T (F := Tryz.f29) ?_ ?_⟩ <;> kernel_rfl
@[go_sem] theorem fr122 : Fct T 122 false none false ∧ Res1 T 122 29 := by refine ⟨⟨?_, ?_, ?_⟩, res1 T (F := Tryz.f122) ?_ ?_⟩ <;> kernel_rfl
@[go_sem] theorem fr123 : Fct T 123 false none false ∧ Res1 T 123 44 := by refine ⟨⟨?_, ?_, ?_⟩, res1 T (F := Tryz.f123) ?_ ?_⟩ <;> kernel_rfl
def r27_0 := nv 2 Tryz.f27
def r27_1 := nv 6 Tryz.f27
theorem ent27 : Ent T 27 6 (.seq (r27_0) (.seq (r27_1) (.ret))) := entI T (F := Tryz.f27) (by kernel_rfl) (by kernel_rfl) (by kernel_rfl)
@[go_sem ↓] theorem run27 : RR r27_0 [oo 2 on] ∧ RR r27_1 [oo 3 (.buildSlice 28 0 #[]), oo 4 (oM 0), oo 5 (oA 3 4 28), oo 2 (oG 5)] ∧ FinF T 27 [.tmp 2] false := by refine ⟨runR T ?_, runR T ?_, finI T (F := Tryz.f27) ?_ ?_ ?_⟩ <;> kernel_rfl
@[go_sem] theorem fr125 : Fct T 125 false none false ∧ Res1 T 125 199 := by refine ⟨⟨?_, ?_, ?_⟩, res1 T (F := Tryz.f125) ?_ ?_⟩ <;> kernel_rfl
@[go_sem] theorem fr126 : Fct T 126 false none false ∧ Res1 T 126 4 := by refine ⟨⟨?_, ?_, ?_⟩, res1 T (F := Tryz.f126) ?_ ?_⟩ <;> kernel_rfl
def r29_0 := nv 2 Tryz.f29
def r29_1 := nv 12 Tryz.f29
def r29_2 := nv 26 Tryz.f29
def r29_3 := nv 108 Tryz.f29
def r29_4 := nv 14 Tryz.f29
theorem ent29 : Ent T 29 16 (.seq (r29_0) (.seq (.seq (r29_1) (.seq (r29_2) (.cond (.tmp 11) (.seq (r29_3) (.ret)) (.skip)))) (.seq (r29_4) (.ret)))) := entI T (F := Tryz.f29) (by kernel_rfl) (by kernel_rfl) (by kernel_rfl)
@[go_sem ↓] theorem run29 : RR r29_0 [oo 2 (.box 34 (.tmp 0)), oo 4 (.assign (.const (.bool false))), oo 5 (oi 0)] ∧ RR r29_1 [oo 7 (oL 34 2), oo 8 (oM 1), oo 9 (o2 122 7 8 34 28), oo 6 (oG 9)] ∧ RR r29_2 [oo 10 (oM 6), oo 11 (oC .neq 29 10 0)] ∧ RR r29_3 [oo 12 (oM 6), oo 4 (.assign (.const (.bool false))), oo 5 (oG 12)] ∧ RR r29_4 [oo 13 (oL 34 2), oo 14 (oM 1), oo 15 (o2 126 13 14 34 28), oo 4 (oG 15), oo 5 (oi 0)] ∧ FinF T 29 [.tmp 4, .tmp 5] false := by refine ⟨runR T ?_, runR T ?_, runR T ?_, runR T ?_, runR T ?_, finI T (F := Tryz.f29) ?_ ?_ ?_⟩ <;> kernel_rfl
@[go_sem] theorem fr192 : Fct T 192 false none false ∧ Res1 T 192 29 := by refine ⟨⟨?_, ?_, ?_⟩, res1 T (F := Tryz.f192) ?_ ?_⟩ <;> kernel_rfl
@[go_sem] theorem fr193 : Fct T 193 false none false ∧ Res1 T 193 29 := by refine ⟨⟨?_, ?_, ?_⟩, res1 T (F := Tryz.f193) ?_ ?_⟩ <;> kernel_rfl
def r122_0 := nv 2 Tryz.f122
def r122_1 := nv 12 Tryz.f122
def r122_2 := nv 26 Tryz.f122
def r122_3 := nv 108 Tryz.f122
def r122_4 := nv 14 Tryz.f122
def r122_5 := nv 30 Tryz.f122
theorem ent122 : Ent T 122 21 (.seq (r122_0) (.seq (.seq (r122_1) (.seq (r122_2) (.cond (.tmp 10) (.seq (r122_3) (.ret)) (.skip)))) (.seq (r122_4) (.seq (r122_5) (.ret))))) := entI T (F := Tryz.f122) (by kernel_rfl) (by kernel_rfl) (by kernel_rfl)
@[go_sem ↓] theorem run122 : RR r122_0 [oo 2 (.box 34 (.tmp 0)), oo 4 (oi 0)] ∧ RR r122_1 [oo 7 (oL 34 2), oo 8 (o1 23 7 34), oo 5 (oG 8)] ∧ RR r122_2 [oo 9 (oM 5), oo 10 (oC .neq 29 9 0)] ∧ RR r122_3 [oo 11 (oM 5), oo 4 (oG 11)] ∧ RR r122_4 [oo 12 (.makeFunc (.func 192) #[] #[.tmp 2]), oo 6 (oG 12)] ∧ RR r122_5 [oo 13 (oM 1), oo 14 (oM 6), oo 15 (o2 116 13 14 28 189), oo 16 (o1 114 15 187), oo 17 (oM 1), oo 18 (o1 193 17 28), oo 19 (.buildSlice 187 2 #[(0, .tmp 16), (1, .tmp 18)]), oo 20 (o1 114 19 187), oo 4 (oG 20)] ∧ FinF T 122 [.tmp 4] false := by refine ⟨runR T ?_, runR T ?_, runR T ?_, runR T ?_, runR T ?_, runR T ?_, finI T (F := Tryz.f122) ?_ ?_ ?_⟩ <;> kernel_rfl
@[go_sem] theorem fr194 : Fct T 194 true none true ∧ Res1 T 194 44 := by refine ⟨⟨?_, ?_, ?_⟩, res1 T (F := Tryz.f194) ?_ ?_⟩ <;> kernel_rfl
@[go_sem] theorem fr195 : Fct T 195 true none false ∧ Res1 T 195 72 := by refine ⟨⟨?_, ?_, ?_⟩, res1 T (F := Tryz.f195) ?_ ?_⟩ <;> kernel_rfl
def r123_0 := nv 2 Tryz.f123
def r123_1 := nv 6 Tryz.f123
def r123_2 := nv 28 Tryz.f123
def b123_0 := nv 116 Tryz.f123
def r123_3 := nv 232 Tryz.f123
def r123_4 := nv 3736 Tryz.f123
def r123_5 := nv 7474 Tryz.f123
def r123_6 := nv 14950 Tryz.f123
def b123_1 := nv 59804 Tryz.f123
def r123_7 := nv 119608 Tryz.f123
def r123_8 := nv 1913752 Tryz.f123
def r123_9 := nv 3827506 Tryz.f123
def r123_10 := nv 3827507 Tryz.f123
def r123_11 := nv 478439 Tryz.f123
def r123_12 := nv 935 Tryz.f123
def r123_13 := nv 30 Tryz.f123
theorem ent123 : Ent T 123 64 (.seq (r123_0) (.seq (r123_1) (.seq (.seq (r123_2) (.block 0 (.loop b123_0))) (.seq (r123_13) (.ret))))) := entI T (F := Tryz.f123) (by kernel_rfl) (by kernel_rfl) (by kernel_rfl)
@[go_sem ↓] theorem run123 : RR r123_0 [oo 2 (.box 34 (.tmp 0)), oo 4 on] ∧ RR r123_1 [oo 11 (oF 34 2 0), oo 12 (oL 22 11), oo 13 (.call ⟨.value (.func 194), #[.tmp 12, .func 195], #[22, 279]⟩), oo 5 (oG 13)] ∧ RR r123_2 [oo 14 (oM 1), oo 15 (oN 14 28), oo 16 (.move (.const (.int .i64 0)))] ∧ RR r123_3 [oo 17 (oB .lss 3 16 15)] ∧ RR r123_4 [oo 18 (oI 28 14 16), oo 19 (oL 3 18), oo 7 (oG 19)] ∧ RR r123_5 [oo 20 (oF 34 2 2), oo 21 (oL 32 20), oo 22 (oM 7), oo 23 (oI 32 21 22), oo 24 (oL 180 23), oo 8 (.alloc 180), ow 180 8 24] ∧ RR r123_6 [oo 25 (oF 180 8 2), oo 26 (oL 72 25), oo 27 (oN 26 72), oo 28 (.move (.const (.int .i64 0)))] ∧ RR r123_7 [oo 29 (oB .lss 3 28 27)] ∧ RR r123_8 [oo 30 (oM 28), oo 31 (oI 72 26 28), oo 32 (oL 142 31), oo 10 (.alloc 142), oo 9 (oG 30), ow 142 10 32] ∧ RD r123_9 123 [oo 33 (oM 5), oo 34 (oF 180 8 1), oo 35 (oL 3 34), oo 36 (oI 44 33 35), oo 37 (oL 72 36), oo 38 (oM 9), oo 39 (oI 72 37 38), oo 40 (oF 142 39 0), oo 41 (oL 3 40), oo 42 (oF 142 10 0), oo 43 (oL 3 42), oo 44 (oB .add 3 41 43), oo 45 (oI 72 37 38), oo 46 (oF 142 45 0), ow 3 46 44] [(0, 1), (0, 2), (0, 5), (1, 5), (2, 5), (3, 5), (4, 5), (0, 9), (1, 9), (2, 9), (3, 9), (4, 9), (5, 9), (6, 9), (7, 9), (8, 9), (0, 10), (1, 10), (2, 10), (3, 10), (4, 10), (5, 10), (6, 10), (7, 10), (8, 10)] ∧ RD r123_10 123 [oo 47 (oM 5), oo 48 (oF 180 8 1), oo 49 (oL 3 48), oo 50 (oI 44 47 49), oo 51 (oL 72 50), oo 52 (oM 9), oo 53 (oI 72 51 52), oo 54 (oF 142 53 1), oo 55 (oL 3 54), oo 56 (oF 142 10 1), oo 57 (oL 3 56), oo 58 (oB .add 3 55 57), oo 59 (oI 72 51 52), oo 60 (oF 142 59 1), ow 3 60 58] [(0, 1), (0, 2), (0, 5), (1, 5), (2, 5), (3, 5), (4, 5), (0, 9), (1, 9), (2, 9), (3, 9), (4, 9), (5, 9), (6, 9), (7, 9), (8, 9), (0, 10), (1, 10), (2, 10), (3, 10), (4, 10), (5, 10), (6, 10), (7, 10), (8, 10)] ∧ RR r123_11 [oo 61 (oC .add 3 28 1), oo 28 (oM 61)] ∧ RI b123_1 (.seq (r123_7) (.seq (.cond (.tmp 29) (.skip) (.exit 2)) (.seq (.block 3 (.seq (r123_8) (.seq (r123_9) (r123_10)))) (r123_11)))) ∧ KeepS T 123 b123_1 [2, 5, 8, 14, 15, 16, 26, 27, 28] ∧ RR r123_12 [oo 62 (oC .add 3 16 1), oo 16 (oM 62)] ∧ RI b123_0 (.seq (r123_3) (.seq (.cond (.tmp 17) (.skip) (.exit 0)) (.seq (.block 1 (.seq (r123_4) (.seq (r123_5) (.seq (r123_6) (.block 2 (.loop b123_1)))))) (r123_12)))) ∧ KeepS T 123 b123_0 [2, 5, 14, 15, 16] ∧ RR r123_13 [oo 63 (oM 5), oo 4 (oG 63)] ∧ FinF T 123 [.tmp 4] false := by refine ⟨runR T ?_, runR T ?_, runR T ?_, runR T ?_, runR T ?_, runR T ?_, runR T ?_, runR T ?_, runR T ?_, runD T (id := 9) ?_ ?_, runD T (id := 10) ?_ ?_, runR T ?_, runIc T ?_, keepS T ?_, runR T ?_, runIc T ?_, keepS T ?_, runR T ?_, finI T (F := Tryz.f123) ?_ ?_ ?_⟩ <;> kernel_rfl
@[go_sem] theorem fct197 : Fct T 197 false none false := ⟨by kernel_rfl, by kernel_rfl, by kernel_rfl⟩
@[go_sem] theorem res197 : Res0 T 197 := res0 T (F := Tryz.f197) (by kernel_rfl) (by kernel_rfl)
def r125_0 := nv 2 Tryz.f125
def r125_1 := nv 6 Tryz.f125
def r125_2 := nv 14 Tryz.f125
theorem ent125 : Ent T 125 13 (.seq (r125_0) (.seq (r125_1) (.seq (r125_2) (.ret)))) := entI T (F := Tryz.f125) (by kernel_rfl) (by kernel_rfl) (by kernel_rfl)
@[go_sem ↓] theorem run125 : RR r125_0 [oo 2 (.box 34 (.tmp 0)), oo 4 (.assign (.const (.nilFunc)))] ∧ RD r125_1 125 [oo 7 (oL 34 2), oo 8 (o1 107 7 34), oo 9 (oL 34 2), oo 10 (oM 1), oo 11 (o2 123 9 10 34 28), oo 5 (.alloc 22), oo 6 (.alloc 44), ow 22 5 8, ow 44 6 11] [(0, 2), (1, 2), (0, 3), (1, 3), (2, 3), (0, 5), (1, 5), (2, 5), (3, 5), (4, 5), (0, 6), (1, 6), (2, 6), (3, 6), (4, 6), (5, 6)] ∧ RR r125_2 [oo 12 (.makeFunc (.func 197) #[] #[.tmp 5, .tmp 6, .tmp 2]), oo 4 (oG 12)] ∧ FinF T 125 [.tmp 4] false := by refine ⟨runR T ?_, runD T (id := 1) ?_ ?_, runR T ?_, finI T (F := Tryz.f125) ?_ ?_ ?_⟩ <;> kernel_rfl
def r126_0 := nv 2 Tryz.f126
def r126_1 := nv 12 Tryz.f126
def a126_0 := nv 52 Tryz.f126
def c126_0 := nv 53 Tryz.f126
def r126_2 := nv 212 Tryz.f126
def r126_3 := nv 14 Tryz.f126
theorem ent126 : Ent T 126 9 (.seq (r126_0) (.seq (.seq (r126_1) (.block 0 (.rangeFunc (.tmp 7) #[8] a126_0 c126_0))) (.seq (r126_3) (.ret)))) := entI T (F := Tryz.f126) (by kernel_rfl) (by kernel_rfl) (by kernel_rfl)
@[go_sem ↓] theorem run126 : RR r126_0 [oo 2 (.box 34 (.tmp 0)), oo 4 (.alloc 4)] ∧ RR r126_1 [oo 5 (oL 34 2), oo 6 (oM 1), oo 7 (o2 125 5 6 34 28)] ∧ RR r126_2 [⟨none, .store 4 (.tmp 4) (.const (.bool false)), none⟩] ∧ RI a126_0 (.skip) ∧ RI c126_0 (.block 1 (.seq (r126_2) (.ret))) ∧ RR r126_3 [⟨none, .store 4 (.tmp 4) (.const (.bool true)), none⟩] ∧ FinF T 126 [.cell 4 4] false := by refine ⟨runR T ?_, runR T ?_, runR T ?_, runIc T ?_, runIc T ?_, runR T ?_, finI T (F := Tryz.f126) ?_ ?_ ?_⟩ <;> kernel_rfl
def r192_0 := nv 2 Tryz.f192
def r192_1 := nv 6 Tryz.f192
theorem ent192 : Ent T 192 14 (.seq (r192_0) (.seq (r192_1) (.ret))) := entI T (F := Tryz.f192) (by kernel_rfl) (by kernel_rfl) (by kernel_rfl)
@[go_sem ↓] theorem run192 : RR r192_0 [oo 3 (oi 0)] ∧ RR r192_1 [oo 4 (oM 0), oo 5 (oC .lss 3 4 0), oo 6 (oM 5), of 7 (oM 0) 6, of 8 (oF 34 1 2) 6, of 9 (oL 32 8) 6, of 10 (oN 9 32) 6, of 11 (oB .geq 3 7 10) 6, oo 12 (.pick (.tmp 6) (.const (.bool true)) (.tmp 11)), oo 13 (.call ⟨.value (.func 115), #[.tmp 12, .const (.int .i64 10)], #[4, 29]⟩), oo 3 (oG 13)] ∧ FinF T 192 [.tmp 3] false := by refine ⟨runR T ?_, runR T ?_, finI T (F := Tryz.f192) ?_ ?_ ?_⟩ <;> kernel_rfl
def r193_0 := nv 2 Tryz.f193
def r193_1 := nv 12 Tryz.f193
def b193_0 := nv 52 Tryz.f193
def r193_2 := nv 208 Tryz.f193
def r193_4 := nv 840 Tryz.f193
def r193_5 := nv 3364 Tryz.f193
def r193_3 := nv 211 Tryz.f193
def r193_6 := nv 14 Tryz.f193
theorem ent193 : Ent T 193 20 (.seq (r193_0) (.seq (.seq (r193_1) (.block 0 (.loop b193_0))) (.seq (r193_6) (.ret)))) := entI T (F := Tryz.f193) (by kernel_rfl) (by kernel_rfl) (by kernel_rfl)
@[go_sem ↓] theorem run193 : RR r193_0 [oo 2 (oi 0)] ∧ RR r193_1 [oo 3 (oi 1)] ∧ RR r193_2 [oo 4 (oM 3), oo 5 (oM 0), oo 6 (oN 5 28), oo 7 (oB .lss 3 4 6)] ∧ RD r193_4 193 [oo 10 (oM 0), oo 11 (oM 3), oo 12 (oI 28 10 11), oo 13 (oL 3 12), oo 14 (oM 0), oo 15 (oM 3), oo 16 (oC .sub 3 15 1), oo 17 (oI 28 14 16), oo 18 (oL 3 17), oo 19 (oB .leq 3 13 18)] [(0, 1), (0, 4), (1, 4), (2, 4), (3, 4), (0, 5), (1, 5), (2, 5), (3, 5), (4, 5), (0, 6), (1, 6), (2, 6), (3, 6), (4, 6), (0, 7), (1, 7), (2, 7), (3, 7), (0, 8), (1, 8), (2, 8), (3, 8)] ∧ RR r193_5 [oo 2 (oi 11)] ∧ RR r193_3 [oo 8 (oM 3), oo 9 (oC .add 3 8 1), oo 3 (oG 9)] ∧ RI b193_0 (.seq (.seq (r193_2) (.cond (.tmp 7) (.skip) (.exit 0))) (.seq (.block 1 (.seq (r193_4) (.cond (.tmp 19) (.seq (r193_5) (.ret)) (.skip)))) (r193_3))) ∧ KeepS T 193 b193_0 [0, 3] ∧ RR r193_6 [oo 2 (oi 0)] ∧ FinF T 193 [.tmp 2] false := by refine ⟨runR T ?_, runR T ?_, runR T ?_, runD T (id := 4) ?_ ?_, runR T ?_, runR T ?_, runIc T ?_, keepS T ?_, runR T ?_, finI T (F := Tryz.f193) ?_ ?_ ?_⟩ <;> kernel_rfl
def r194_0 := nv 2 Tryz.f194
def r194_1 := nv 6 Tryz.f194
def r194_2 := nv 28 Tryz.f194
def b194_0 := nv 116 Tryz.f194
def r194_3 := nv 232 Tryz.f194
def r194_4 := nv 3736 Tryz.f194
def r194_5 := nv 3737 Tryz.f194
def r194_6 := nv 935 Tryz.f194
def r194_7 := nv 30 Tryz.f194
theorem ent194 : Ent T 194 22 (.seq (r194_0) (.seq (r194_1) (.seq (.seq (r194_2) (.block 0 (.loop b194_0))) (.seq (r194_7) (.ret))))) := entI T (F := Tryz.f194) (by kernel_rfl) (by kernel_rfl) (by kernel_rfl)
@[go_sem ↓] theorem run194 : RR r194_0 [oo 4 on] ∧ RR r194_1 [oo 5 on] ∧ RR r194_2 [oo 8 (oM 0), oo 9 (oN 8 22), oo 10 (.move (.const (.int .i64 0)))] ∧ RR r194_3 [oo 11 (oB .lss 3 10 9)] ∧ RR r194_4 [oo 12 (oI 22 8 10), oo 13 (oL 28 12), oo 7 (oG 13)] ∧ RR r194_5 [oo 14 (oM 5), oo 15 (oM 1), oo 16 (oM 7), oo 17 (.call ⟨.value (.tmp 15), #[.tmp 16], #[28]⟩), oo 18 (oS 44 17), oo 19 (oA 14 18 44), oo 5 (oG 19)] ∧ RR r194_6 [oo 20 (oC .add 3 10 1), oo 10 (oM 20)] ∧ RI b194_0 (.seq (r194_3) (.seq (.cond (.tmp 11) (.skip) (.exit 0)) (.seq (.block 1 (.seq (r194_4) (r194_5))) (r194_6)))) ∧ KeepS T 194 b194_0 [1, 5, 8, 9, 10] ∧ RR r194_7 [oo 21 (oM 5), oo 4 (oG 21)] ∧ FinF T 194 [.tmp 4] true := by refine ⟨runR T ?_, runR T ?_, runR T ?_, runR T ?_, runR T ?_, runR T ?_, runR T ?_, runIc T ?_, keepS T ?_, runR T ?_, finI T (F := Tryz.f194) ?_ ?_ ?_⟩ <;> kernel_rfl
def r195_0 := nv 2 Tryz.f195
def r195_1 := nv 6 Tryz.f195
theorem ent195 : Ent T 195 6 (.seq (r195_0) (.seq (r195_1) (.ret))) := entI T (F := Tryz.f195) (by kernel_rfl) (by kernel_rfl) (by kernel_rfl)
@[go_sem ↓] theorem run195 : RR r195_0 [oo 2 on] ∧ RR r195_1 [oo 3 (oM 0), oo 4 (oN 3 28), oo 5 (.makeSlice 72 (.tmp 4) (.tmp 4)), oo 2 (oG 5)] ∧ FinF T 195 [.tmp 2] true := by refine ⟨runR T ?_, runR T ?_, finI T (F := Tryz.f195) ?_ ?_ ?_⟩ <;> kernel_rfl
def r197_0 := nv 2 Tryz.f197
def b197_0 := nv 12 Tryz.f197
def r197_1 := nv 24 Tryz.f197
def r197_2 := nv 408 Tryz.f197
def r197_3 := nv 818 Tryz.f197
def b197_1 := nv 3276 Tryz.f197
def r197_4 := nv 6552 Tryz.f197
def r197_5 := nv 104856 Tryz.f197
def r197_6 := nv 209714 Tryz.f197
def r197_7 := nv 419430 Tryz.f197
def r197_8 := nv 26215 Tryz.f197
def r197_9 := nv 103 Tryz.f197
theorem ent197 : Ent T 197 57 (.seq (r197_0) (.block 0 (.loop b197_0))) := entI T (F := Tryz.f197) (by kernel_rfl) (by kernel_rfl) (by kernel_rfl)
@[go_sem ↓] theorem run197 : RR r197_0 [oo 10 (oL 22 1), oo 11 (oN 10 22), oo 12 (.move (.const (.int .i64 0)))] ∧ RR r197_1 [oo 13 (oB .lss 3 12 11)] ∧ RR r197_2 [oo 14 (oM 12), oo 15 (oI 22 10 12), oo 16 (oL 28 15), oo 5 (oG 14), oo 6 (oG 16)] ∧ RR r197_3 [oo 17 (oM 6), oo 18 (oN 17 28), oo 19 (.move (.const (.int .i64 0)))] ∧ RR r197_4 [oo 20 (oB .lss 3 19 18)] ∧ RR r197_5 [oo 21 (oM 19), oo 22 (oI 28 17 19), oo 23 (oL 3 22), oo 7 (oG 21), oo 8 (oG 23)] ∧ RR r197_6 [oo 24 (oL 44 2), oo 25 (oM 5), oo 26 (oI 44 24 25), oo 27 (oL 72 26), oo 28 (oM 7), oo 29 (oI 72 27 28), oo 30 (oL 142 29), oo 9 (.alloc 142), ow 142 9 30] ∧ RR r197_7 [oo 31 (oM 8), oo 32 (oF 142 9 0), oo 33 (oL 3 32), oo 34 (oF 34 3 1), oo 35 (oL 3 34), oo 36 (oB .sub 3 33 35), oo 37 (oB .lss 3 31 36), oo 38 (oM 37), of 39 (oM 8) 38, of 40 (oF 142 9 1) 38, of 41 (oL 3 40) 38, of 42 (oF 34 3 1) 38, of 43 (oL 3 42) 38, of 44 (oB .add 3 41 43) 38, of 45 (oB .gtr 3 39 44) 38, oo 46 (.pick (.tmp 38) (.const (.bool true)) (.tmp 45)), oo 47 (oM 46), ot 48 (oM 0) 47, ot 49 (oM 5) 47, ot 50 (oM 7) 47, ot 51 (.build 100 #[(0, .tmp 49), (1, .tmp 50)]) 47, ot 52 (.call ⟨.value (.tmp 48), #[.tmp 51], #[100]⟩) 47, ot 53 (.unOp .not 4 (.tmp 52)) 47, oo 54 (.pick (.tmp 47) (.tmp 53) (.const (.bool false)))] ∧ RR r197_8 [oo 55 (oC .add 3 19 1), oo 19 (oM 55)] ∧ RI b197_1 (.seq (r197_4) (.seq (.cond (.tmp 20) (.skip) (.exit 2)) (.seq (.block 3 (.seq (r197_5) (.seq (r197_6) (.seq (r197_7) (.cond (.tmp 54) (.ret) (.skip)))))) (r197_8)))) ∧ KeepS T 197 b197_1 [0, 2, 3, 5, 10, 11, 12, 17, 18, 19] ∧ RR r197_9 [oo 56 (oC .add 3 12 1), oo 12 (oM 56)] ∧ RI b197_0 (.seq (r197_1) (.seq (.cond (.tmp 13) (.skip) (.exit 0)) (.seq (.block 1 (.seq (r197_2) (.seq (r197_3) (.block 2 (.loop b197_1))))) (r197_9)))) ∧ KeepS T 197 b197_0 [0, 2, 3, 10, 11, 12] ∧ FinF T 197 [] false := by refine ⟨runR T ?_, runR T ?_, runR T ?_, runR T ?_, runR T ?_, runR T ?_, runR T ?_, runR T ?_, runR T ?_, runIc T ?_, keepS T ?_, runR T ?_, runIc T ?_, keepS T ?_, finI T (F := Tryz.f197) ?_ ?_ ?_⟩ <;> kernel_rfl
@[go_sem] theorem fr86 : Fct T 86 false none false ∧ Res1 T 86 9 := by refine ⟨⟨?_, ?_, ?_⟩, res1 T (F := Tryz.f86) ?_ ?_⟩ <;> kernel_rfl
@[go_sem] theorem fr87 : Fct T 87 false none false ∧ Res1 T 87 142 := by refine ⟨⟨?_, ?_, ?_⟩, res1 T (F := Tryz.f87) ?_ ?_⟩ <;> kernel_rfl
def r87_0 := nv 2 Tryz.f87
def r87_1 := nv 6 Tryz.f87
theorem ent87 : Ent T 87 8 (.seq (r87_0) (.seq (r87_1) (.ret))) := entI T (F := Tryz.f87) (by kernel_rfl) (by kernel_rfl) (by kernel_rfl)
@[go_sem ↓] theorem run87 : RR r87_0 [oo 4 (.alloc 142)] ∧ RR r87_1 [oo 5 (oM 0), oo 6 (oM 1), oo 7 (.build 142 #[(0, .tmp 5), (1, .tmp 6)]), ow 142 4 7] ∧ FinF T 87 [.cell 4 142] false := by refine ⟨runR T ?_, runR T ?_, finI T (F := Tryz.f87) ?_ ?_ ?_⟩ <;> kernel_rfl
end Go.Den.FaT
end
