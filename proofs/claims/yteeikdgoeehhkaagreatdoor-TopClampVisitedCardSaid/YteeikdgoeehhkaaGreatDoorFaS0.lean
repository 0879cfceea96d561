import Derived.Test.YteeikdgoeehhkaaGreatDoorFaTab
import Derived.Test.YteeikdgoeehhkaaGreatDoorZR
import Derived.Test.YteeikdgoeehhkaaGreatDoorFaTi
set_option linter.all false
set_option maxHeartbeats 8000000
set_option maxRecDepth 100000
noncomputable section
namespace Go.Den.FaT
open Go Go.Proofs Go.Den
abbrev RR (c : Code) (os : List SO) : Prop := RunR T c os
abbrev RD (c : Code) (f : Nat) (os : List SO) (ps : List (Nat × Nat)) : Prop := RunD T c f os ps
abbrev RI (r c : Code) : Prop := RunIc T r c
@[go_sem] theorem fr6 : Fct T 6 false none false ∧ Res2 T 6 31 41 [] := by refine ⟨⟨?_, ?_, ?_⟩, res2 T (F := Tryz.f6) ?_ ?_⟩ <;> kernel_rfl
@[go_sem] theorem fr24 : Fct T 24 false none false ∧ Res1 T 24 41 := by refine ⟨⟨?_, ?_, ?_⟩, res1 T (F := Tryz.f24) ?_ ?_⟩ <;> kernel_rfl
@[go_sem] theorem fr25 : Fct T 25 false none false ∧ Res1 T 25 41 := by refine ⟨⟨?_, ?_, ?_⟩, res1 T (F := Tryz.f25) ?_ ?_⟩ <;> kernel_rfl
@[go_sem] theorem fr26 : Fct T 26 false none false ∧ Res1 T 26 41 := by refine ⟨⟨?_, ?_, ?_⟩, res1 T (F := Tryz.f26) ?_ ?_⟩ <;> kernel_rfl
@[go_sem] theorem fr27 : Fct T 27 false none false ∧ Res1 T 27 31 := by refine ⟨⟨?_, ?_, ?_⟩, res1 T (F := Tryz.f27) ?_ ?_⟩ <;> kernel_rfl
def r6_0 := nv 2 Tryz.f6
def r6_1 := nv 12 Tryz.f6
def r6_2 := nv 26 Tryz.f6
def r6_3 := nv 108 Tryz.f6
def r6_4 := nv 14 Tryz.f6
theorem ent6 : Ent T 6 20 (.seq (r6_0) (.seq (.seq (r6_1) (.seq (r6_2) (.cond (.tmp 14) (.seq (r6_3) (.ret)) (.skip)))) (.seq (r6_4) (.ret)))) := entI T (F := Tryz.f6) (by kernel_rfl) (by kernel_rfl) (by kernel_rfl)
@[go_sem ↓] theorem run6 : RR r6_0 [oo 2 (.box 33 (.tmp 0)), oo 3 (.box 31 (.tmp 1)), oo 4 (.alloc 31), oo 5 (oi 0)] ∧ RD r6_1 6 [oo 7 (oL 33 2), oo 8 (o1 25 7 33), oo 9 (oL 31 3), oo 10 (o1 26 9 31), oo 11 (.buildSlice 114 2 #[(0, .tmp 8), (1, .tmp 10)]), oo 12 (o1 24 11 114), oo 6 (oG 12)] [(0, 2), (1, 2)] ∧ RR r6_2 [oo 13 (oM 6), oo 14 (oC .neq 41 13 0)] ∧ RR r6_3 [oo 15 (.build 31 #[]), oo 16 (oM 6), ow 31 4 15, oo 5 (oG 16)] ∧ RR r6_4 [oo 17 (oL 33 2), oo 18 (oL 31 3), oo 19 (o2 27 17 18 33 31), ow 31 4 19, oo 5 (oi 0)] ∧ FinF T 6 [.cell 4 31, .tmp 5] false := by refine ⟨runR T ?_, runD T (id := 1) ?_ ?_, runR T ?_, runR T ?_, runR T ?_, finI T (F := Tryz.f6) ?_ ?_ ?_⟩ <;> kernel_rfl
@[go_sem] theorem fr7 : Fct T 7 false none false ∧ Res2 T 7 31 41 [] := by refine ⟨⟨?_, ?_, ?_⟩, res2 T (F := Tryz.f7) ?_ ?_⟩ <;> kernel_rfl
@[go_sem] theorem fr28 : Fct T 28 false none false ∧ Res1 T 28 31 := by refine ⟨⟨?_, ?_, ?_⟩, res1 T (F := Tryz.f28) ?_ ?_⟩ <;> kernel_rfl
def r7_0 := nv 2 Tryz.f7
def r7_1 := nv 12 Tryz.f7
def r7_2 := nv 26 Tryz.f7
def r7_3 := nv 108 Tryz.f7
def r7_4 := nv 14 Tryz.f7
theorem ent7 : Ent T 7 29 (.seq (r7_0) (.seq (.seq (r7_1) (.seq (r7_2) (.cond (.tmp 14) (.seq (r7_3) (.ret)) (.skip)))) (.seq (r7_4) (.ret)))) := entI T (F := Tryz.f7) (by kernel_rfl) (by kernel_rfl) (by kernel_rfl)
@[go_sem ↓] theorem run7 : RR r7_0 [oo 2 (.box 33 (.tmp 0)), oo 3 (.box 31 (.tmp 1)), oo 4 (.alloc 31), oo 5 (oi 0)] ∧ RD r7_1 7 [oo 7 (oL 33 2), oo 8 (o1 25 7 33), oo 9 (oL 31 3), oo 10 (o1 26 9 31), oo 11 (.buildSlice 114 2 #[(0, .tmp 8), (1, .tmp 10)]), oo 12 (o1 24 11 114), oo 6 (oG 12)] [(0, 2), (1, 2)] ∧ RR r7_2 [oo 13 (oM 6), oo 14 (oC .neq 41 13 0)] ∧ RR r7_3 [oo 15 (.build 31 #[]), oo 16 (oM 6), ow 31 4 15, oo 5 (oG 16)] ∧ RD r7_4 7 [oo 17 (oF 33 2 0), oo 18 (oL 3 17), oo 19 (.binOp .sub 3 (.const (.int .i64 4)) (.tmp 18) 3), oo 20 (oC .rem 3 19 4), oo 21 (.indexAddr 110 (.global 0) (.tmp 20)), oo 22 (oF 109 21 1), oo 23 (oL 107 22), oo 24 (oL 31 3), oo 25 (oF 33 2 1), oo 26 (oL 31 25), oo 27 (o2 28 24 26 31 31), oo 28 (.call ⟨.value (.tmp 23), #[.tmp 27], #[31]⟩), ow 31 4 28, oo 5 (oi 0)] [(0, 7), (1, 7), (2, 7), (3, 7), (4, 7), (5, 7), (6, 7), (0, 8), (1, 8), (2, 8), (3, 8), (4, 8), (5, 8), (6, 8), (7, 8), (0, 9), (1, 9), (2, 9), (3, 9), (4, 9), (5, 9), (6, 9), (7, 9), (0, 10), (1, 10), (2, 10), (3, 10), (4, 10), (5, 10), (6, 10)] ∧ FinF T 7 [.cell 4 31, .tmp 5] false := by refine ⟨runR T ?_, runD T (id := 1) ?_ ?_, runR T ?_, runR T ?_, runD T (id := 4) ?_ ?_, finI T (F := Tryz.f7) ?_ ?_ ?_⟩ <;> kernel_rfl
@[go_sem] theorem fr8 : Fct T 8 false none false ∧ Res1 T 8 9 := by refine ⟨⟨?_, ?_, ?_⟩, res1 T (F := Tryz.f8) ?_ ?_⟩ <;> kernel_rfl
@[go_sem] theorem fr9 : Fct T 9 false none false ∧ Res2 T 9 38 39 [41] := by refine ⟨⟨?_, ?_, ?_⟩, res2 T (F := Tryz.f9) ?_ ?_⟩ <;> kernel_rfl
@[go_sem] theorem fr29 : Fct T 29 false none false ∧ Res1 T 29 41 := by refine ⟨⟨?_, ?_, ?_⟩, res1 T (F := Tryz.f29) ?_ ?_⟩ <;> kernel_rfl
@[go_sem] theorem fr30 : Fct T 30 false none false ∧ Res1 T 30 114 := by refine ⟨⟨?_, ?_, ?_⟩, res1 T (F := Tryz.f30) ?_ ?_⟩ <;> kernel_rfl
@[go_sem] theorem fr31 : Fct T 31 false none false ∧ Res1 T 31 41 := by refine ⟨⟨?_, ?_, ?_⟩, res1 T (F := Tryz.f31) ?_ ?_⟩ <;> kernel_rfl
@[go_sem] theorem fr32 : Fct T 32 false none false ∧ Res1 T 32 41 := by refine ⟨⟨?_, ?_, ?_⟩, res1 T (F := Tryz.f32) ?_ ?_⟩ <;> kernel_rfl
def r9_0 := nv 2 Tryz.f9
def r9_1 := nv 12 Tryz.f9
def r9_2 := nv 26 Tryz.f9
def r9_3 := nv 108 Tryz.f9
def r9_4 := nv 14 Tryz.f9
def r9_5 := nv 60 Tryz.f9
def b9_0 := nv 244 Tryz.f9
def r9_6 := nv 488 Tryz.f9
def r9_7 := nv 7832 Tryz.f9
def r9_8 := nv 7833 Tryz.f9
def r9_9 := nv 1959 Tryz.f9
def r9_10 := nv 62 Tryz.f9
def r9_11 := nv 126 Tryz.f9
def r9_12 := nv 508 Tryz.f9
def b9_1 := nv 2036 Tryz.f9
def r9_13 := nv 4072 Tryz.f9
def r9_14 := nv 65176 Tryz.f9
def r9_15 := nv 130354 Tryz.f9
def r9_16 := nv 521420 Tryz.f9
def r9_17 := nv 2085684 Tryz.f9
def r9_18 := nv 260711 Tryz.f9
def r9_19 := nv 16295 Tryz.f9
def r9_20 := nv 510 Tryz.f9
theorem ent9 : Ent T 9 77 (.seq (r9_0) (.seq (.seq (r9_1) (.seq (r9_2) (.cond (.tmp 33) (.seq (r9_3) (.ret)) (.skip)))) (.seq (r9_4) (.seq (.seq (r9_5) (.block 0 (.loop b9_0))) (.seq (r9_10) (.seq (r9_11) (.seq (.seq (r9_12) (.block 2 (.loop b9_1))) (.seq (r9_20) (.ret))))))))) := entI T (F := Tryz.f9) (by kernel_rfl) (by kernel_rfl) (by kernel_rfl)
@[go_sem ↓] theorem run9 : RR r9_0 [oo 4 (.box 33 (.tmp 1)), oo 6 on, oo 7 on, oo 8 (oi 0)] ∧ RD r9_1 9 [oo 19 (oM 0), oo 20 (oN 19 36), oo 21 (oC .gtr 3 20 64), oo 22 (.call ⟨.value (.func 29), #[.tmp 21, .const (.int .i64 5)], #[4, 41]⟩), oo 23 (oM 0), oo 24 (.call ⟨.value (.func 30), #[.tmp 23, .func 31], #[36, 116]⟩), oo 25 (o1 24 24 114), oo 26 (oL 33 4), oo 27 (o1 25 26 33), oo 28 (oM 2), oo 29 (o1 32 28 35), oo 30 (.buildSlice 114 4 #[(0, .tmp 22), (1, .tmp 25), (2, .tmp 27), (3, .tmp 29)]), oo 31 (o1 24 30 114), oo 9 (oG 31)] [(0, 4), (1, 4), (2, 4), (3, 4), (0, 7), (1, 7), (2, 7), (3, 7), (4, 7), (5, 7), (6, 7), (0, 9), (1, 9), (2, 9), (3, 9), (4, 9), (5, 9), (6, 9), (7, 9), (8, 9)] ∧ RR r9_2 [oo 32 (oM 9), oo 33 (oC .neq 41 32 0)] ∧ RR r9_3 [oo 34 (oM 9), oo 6 on, oo 7 on, oo 8 (oG 34)] ∧ RR r9_4 [oo 35 (.makeMap 118 none), oo 10 (oG 35)] ∧ RR r9_5 [oo 36 (oM 2), oo 37 (oN 36 35), oo 38 (.move (.const (.int .i64 0)))] ∧ RR r9_6 [oo 39 (oB .lss 3 38 37)] ∧ RR r9_7 [oo 40 (oI 35 36 38), oo 41 (oL 47 40), oo 12 (.alloc 47), ow 47 12 41] ∧ RR r9_8 [oo 42 (oM 10), oo 43 (oF 47 12 1), oo 44 (oL 31 43), oo 45 (oF 47 12 0), oo 46 (oL 45 45), ⟨none, .mapUpdate 118 (.tmp 42) (.tmp 44) (.tmp 46), none⟩] ∧ RR r9_9 [oo 47 (oC .add 3 38 1), oo 38 (oM 47)] ∧ RI b9_0 (.seq (r9_6) (.seq (.cond (.tmp 39) (.skip) (.exit 0)) (.seq (.block 1 (.seq (r9_7) (r9_8))) (r9_9)))) ∧ KeepS T 9 b9_0 [0, 4, 10, 36, 37, 38] ∧ RR r9_10 [oo 13 on] ∧ RR r9_11 [oo 14 on] ∧ RR r9_12 [oo 48 (oM 0), oo 49 (oN 48 36), oo 50 (.move (.const (.int .i64 0)))] ∧ RR r9_13 [oo 51 (oB .lss 3 50 49)] ∧ RR r9_14 [oo 52 (oM 50), oo 53 (oI 36 48 50), oo 54 (oL 52 53), oo 16 (.alloc 52), oo 15 (oG 52), ow 52 16 54] ∧ RR r9_15 [oo 56 (oM 10), oo 57 (oL 33 4), oo 58 (oF 52 16 0), oo 59 (oL 31 58), oo 60 (o2 27 57 59 33 31), oo 61 (.lookup 118 (.tmp 56) (.tmp 60) true), oo 55 (oM 61), oo 62 (oX 55 0), oo 63 (oX 55 1), oo 17 (.alloc 45), ow 45 17 62, oo 18 (oG 63)] ∧ RR r9_16 [oo 64 (oM 18), oo 65 (.unOp .not 4 (.tmp 64))] ∧ RR r9_17 [oo 66 (oM 14), oo 67 (oM 15), oo 68 (oS 39 67), oo 69 (oA 66 68 39), oo 14 (oG 69)] ∧ RR r9_18 [oo 70 (oM 13), oo 71 (oL 45 17), oo 72 (oS 38 71), oo 73 (oA 70 72 38), oo 13 (oG 73)] ∧ RR r9_19 [oo 74 (oC .add 3 50 1), oo 50 (oM 74)] ∧ RI b9_1 (.seq (r9_13) (.seq (.cond (.tmp 51) (.skip) (.exit 2)) (.seq (.block 3 (.seq (r9_14) (.seq (r9_15) (.seq (.seq (r9_16) (.cond (.tmp 65) (.seq (r9_17) (.exit 3)) (.skip))) (r9_18))))) (r9_19)))) ∧ KeepS T 9 b9_1 [4, 10, 13, 14, 48, 49, 50] ∧ RR r9_20 [oo 75 (oM 13), oo 76 (oM 14), oo 6 (oG 75), oo 7 (oG 76), oo 8 (oi 0)] ∧ FinF T 9 [.tmp 6, .tmp 7, .tmp 8] false := by refine ⟨runR T ?_, runD T (id := 1) ?_ ?_, runR T ?_, runR T ?_, runR T ?_, runR T ?_, runR T ?_, runR T ?_, runR T ?_, runR T ?_, runIc T ?_, keepS T ?_, runR T ?_, runR T ?_, runR T ?_, runR T ?_, runR T ?_, runR T ?_, runR T ?_, runR T ?_, runR T ?_, runR T ?_, runIc T ?_, keepS T ?_, runR T ?_, finI T (F := Tryz.f9) ?_ ?_ ?_⟩ <;> kernel_rfl
@[go_sem] theorem fr10 : Fct T 10 false none false ∧ Res2 T 10 33 39 [41] := by refine ⟨⟨?_, ?_, ?_⟩, res2 T (F := Tryz.f10) ?_ ?_⟩ <;> kernel_rfl
@[go_sem] theorem fr33 : Fct T 33 false none false ∧ Res1 T 33 41 := by refine ⟨⟨?_, ?_, ?_⟩, res1 T (F := Tryz.f33) ?_ ?_⟩ <;> kernel_rfl
@[go_sem] theorem fr34 : Fct T 34 false none false ∧ Res1 T 34 114 := by refine ⟨⟨?_, ?_, ?_⟩, res1 T (F := Tryz.f34) ?_ ?_⟩ <;> kernel_rfl
def r10_0 := nv 2 Tryz.f10
def r10_1 := nv 12 Tryz.f10
def r10_2 := nv 26 Tryz.f10
def r10_3 := nv 108 Tryz.f10
def r10_4 := nv 14 Tryz.f10
def r10_5 := nv 30 Tryz.f10
def r10_6 := nv 124 Tryz.f10
def b10_0 := nv 500 Tryz.f10
def r10_7 := nv 1000 Tryz.f10
def r10_8 := nv 16024 Tryz.f10
def r10_9 := nv 32050 Tryz.f10
def b10_1 := nv 128204 Tryz.f10
def r10_10 := nv 256408 Tryz.f10
def r10_11 := nv 4102552 Tryz.f10
def r10_12 := nv 8205106 Tryz.f10
def r10_13 := nv 16410214 Tryz.f10
def r10_14 := nv 65640860 Tryz.f10
def r10_15 := nv 65640862 Tryz.f10
def r10_16 := nv 262563452 Tryz.f10
def b10_2 := nv 1050253812 Tryz.f10
def r10_17 := nv 2100507624 Tryz.f10
def r10_18 := nv 33608122008 Tryz.f10
def r10_19 := nv 67216244018 Tryz.f10
def r10_20 := nv 134432488038 Tryz.f10
def r10_21 := nv 8402030503 Tryz.f10
def r10_22 := nv 262563454 Tryz.f10
def r10_23 := nv 525126910 Tryz.f10
def r10_24 := nv 1025639 Tryz.f10
def r10_25 := nv 4007 Tryz.f10
def r10_26 := nv 252 Tryz.f10
def r10_27 := nv 1012 Tryz.f10
def r10_28 := nv 254 Tryz.f10
theorem ent10 : Ent T 10 97 (.seq (r10_0) (.seq (.seq (r10_1) (.seq (r10_2) (.cond (.tmp 35) (.seq (r10_3) (.ret)) (.skip)))) (.seq (r10_4) (.seq (r10_5) (.seq (.seq (r10_6) (.block 0 (.loop b10_0))) (.seq (.seq (r10_26) (.cond (.tmp 93) (.seq (r10_27) (.ret)) (.skip))) (.seq (r10_28) (.ret)))))))) := entI T (F := Tryz.f10) (by kernel_rfl) (by kernel_rfl) (by kernel_rfl)
@[go_sem ↓] theorem run10 : RR r10_0 [oo 4 (.alloc 33), oo 5 on, oo 6 (oi 0)] ∧ RR r10_1 [oo 17 (oM 0), oo 18 (oN 17 34), oo 19 (.call ⟨.value (.func 33), #[.tmp 18, .const (.int .i64 8)], #[3, 3]⟩), oo 20 (oM 0), oo 21 (.call ⟨.value (.func 34), #[.tmp 20, .func 26], #[34, 106]⟩), oo 22 (o1 24 21 114), oo 23 (oM 1), oo 24 (oN 23 34), oo 25 (oM 0), oo 26 (oN 25 34), oo 27 (oB .neq 3 24 26), oo 28 (.call ⟨.value (.func 29), #[.tmp 27, .const (.int .i64 2)], #[4, 41]⟩), oo 29 (oM 1), oo 30 (.call ⟨.value (.func 34), #[.tmp 29, .func 26], #[34, 106]⟩), oo 31 (o1 24 30 114), oo 32 (.buildSlice 114 4 #[(0, .tmp 19), (1, .tmp 22), (2, .tmp 28), (3, .tmp 31)]), oo 33 (o1 24 32 114), oo 7 (oG 33)] ∧ RR r10_2 [oo 34 (oM 7), oo 35 (oC .neq 41 34 0)] ∧ RR r10_3 [oo 36 (.build 33 #[]), oo 37 (oM 7), ow 33 4 36, oo 5 on, oo 6 (oG 37)] ∧ RR r10_4 [oo 8 (.alloc 33)] ∧ RR r10_5 [oo 9 on] ∧ RR r10_6 [oo 38 (.move (.const (.int .i64 0)))] ∧ RR r10_7 [oo 39 (oC .lss 3 38 4)] ∧ RR r10_8 [oo 40 (oM 38), oo 10 (oG 40)] ∧ RR r10_9 [oo 41 (oM 0), oo 42 (oN 41 34), oo 43 (.move (.const (.int .i64 0)))] ∧ RR r10_10 [oo 44 (oB .lss 3 43 42)] ∧ RR r10_11 [oo 45 (oM 43), oo 46 (oI 34 41 43), oo 47 (oL 31 46), oo 12 (.alloc 31), oo 11 (oG 45), ow 31 12 47] ∧ RR r10_12 [oo 48 (oM 10), oo 49 (.build 33 #[(0, .tmp 48)]), oo 13 (.alloc 33), ow 33 13 49] ∧ RD r10_13 10 [oo 50 (oM 1), oo 51 (oM 11), oo 52 (oI 34 50 51), oo 53 (oL 31 52), oo 54 (oL 33 13), oo 55 (oL 31 12), oo 56 (o2 27 54 55 33 31), oo 57 (o2 28 53 56 31 31), oo 58 (oF 33 13 1), ow 31 58 57] [(0, 1), (0, 4), (1, 4), (2, 4), (3, 4), (0, 5), (1, 5), (2, 5), (3, 5), (4, 5), (0, 6), (1, 6), (2, 6), (3, 6)] ∧ RR r10_14 [oo 59 (oL 33 13), oo 60 (o1 25 59 33), oo 61 (oC .neq 41 60 0)] ∧ RR r10_15 [oo 14 on] ∧ RR r10_16 [oo 62 (oM 0), oo 63 (oN 62 34), oo 64 (.move (.const (.int .i64 0)))] ∧ RR r10_17 [oo 65 (oB .lss 3 64 63)] ∧ RR r10_18 [oo 66 (oM 64), oo 67 (oI 34 62 64), oo 68 (oL 31 67), oo 16 (.alloc 31), oo 15 (oG 66), ow 31 16 68] ∧ RD r10_19 10 [oo 69 (oL 33 13), oo 70 (oL 31 16), oo 71 (o2 27 69 70 33 31), oo 72 (oM 1), oo 73 (oM 15), oo 74 (oI 34 72 73), oo 75 (oL 31 74), oo 76 (oB .eql 31 71 75)] [(0, 1), (0, 3), (1, 3), (2, 3), (0, 4), (1, 4), (2, 4), (3, 4), (0, 5), (1, 5), (2, 5), (0, 6), (1, 6), (2, 6)] ∧ RR r10_20 [oo 77 (oM 14), oo 78 (oM 15), oo 79 (oS 39 78), oo 80 (oA 77 79 39), oo 14 (oG 80)] ∧ RR r10_21 [oo 81 (oC .add 3 64 1), oo 64 (oM 81)] ∧ RI b10_2 (.seq (r10_17) (.seq (.cond (.tmp 65) (.skip) (.exit 4)) (.seq (.block 5 (.seq (r10_18) (.seq (r10_19) (.cond (.tmp 76) (r10_20) (.skip))))) (r10_21)))) ∧ KeepS T 10 b10_2 [0, 1, 4, 8, 9, 10, 13, 14, 38, 41, 42, 43, 62, 63, 64] ∧ RR r10_22 [oo 82 (oM 14), oo 83 (oN 82 39), oo 84 (oM 9), oo 85 (oN 84 39), oo 86 (oB .gtr 3 83 85)] ∧ RR r10_23 [oo 87 (oL 33 13), oo 88 (oM 14), ow 33 8 87, oo 9 (oG 88)] ∧ RR r10_24 [oo 89 (oC .add 3 43 1), oo 43 (oM 89)] ∧ RI b10_1 (.seq (r10_10) (.seq (.cond (.tmp 44) (.skip) (.exit 2)) (.seq (.block 3 (.seq (r10_11) (.seq (r10_12) (.seq (r10_13) (.seq (.seq (r10_14) (.cond (.tmp 61) (.exit 3) (.skip))) (.seq (r10_15) (.seq (.seq (r10_16) (.block 4 (.loop b10_2))) (.seq (r10_22) (.cond (.tmp 86) (r10_23) (.skip)))))))))) (r10_24)))) ∧ KeepS T 10 b10_1 [0, 1, 4, 8, 9, 10, 38, 41, 42, 43] ∧ RR r10_25 [oo 90 (oC .add 3 38 1), oo 38 (oM 90)] ∧ RI b10_0 (.seq (r10_7) (.seq (.cond (.tmp 39) (.skip) (.exit 0)) (.seq (.block 1 (.seq (r10_8) (.seq (r10_9) (.block 2 (.loop b10_1))))) (r10_25)))) ∧ KeepS T 10 b10_0 [0, 1, 4, 8, 9, 38] ∧ RR r10_26 [oo 91 (oM 9), oo 92 (oN 91 39), oo 93 (oC .eql 3 92 0)] ∧ RR r10_27 [oo 94 (.build 33 #[]), ow 33 4 94, oo 5 on, oo 6 (oi 7)] ∧ RR r10_28 [oo 95 (oL 33 8), oo 96 (oM 9), ow 33 4 95, oo 5 (oG 96), oo 6 (oi 0)] ∧ FinF T 10 [.cell 4 33, .tmp 5, .tmp 6] false := by refine ⟨runR T ?_, runR T ?_, runR T ?_, runR T ?_, runR T ?_, runR T ?_, runR T ?_, runR T ?_, runR T ?_, runR T ?_, runR T ?_, runR T ?_, runR T ?_, runD T (id := 13) ?_ ?_, runR T ?_, runR T ?_, runR T ?_, runR T ?_, runR T ?_, runD T (id := 19) ?_ ?_, runR T ?_, runR T ?_, runIc T ?_, keepS T ?_, runR T ?_, runR T ?_, runR T ?_, runIc T ?_, keepS T ?_, runR T ?_, runIc T ?_, keepS T ?_, runR T ?_, runR T ?_, runR T ?_, finI T (F := Tryz.f10) ?_ ?_ ?_⟩ <;> kernel_rfl
@[go_sem] theorem fr13 : Fct T 13 false none false ∧ Res1 T 13 4 := by refine ⟨⟨?_, ?_, ?_⟩, res1 T (F := Tryz.f13) ?_ ?_⟩ <;> kernel_rfl
def r13_0 := nv 2 Tryz.f13
def r13_1 := nv 12 Tryz.f13
def b13_0 := nv 52 Tryz.f13
def r13_2 := nv 208 Tryz.f13
def r13_4 := nv 840 Tryz.f13
def r13_5 := nv 3364 Tryz.f13
def r13_3 := nv 211 Tryz.f13
def r13_6 := nv 14 Tryz.f13
theorem ent13 : Ent T 13 18 (.seq (r13_0) (.seq (.seq (r13_1) (.block 0 (.loop b13_0))) (.seq (r13_6) (.ret)))) := entI T (F := Tryz.f13) (by kernel_rfl) (by kernel_rfl) (by kernel_rfl)
@[go_sem ↓] theorem run13 : RR r13_0 [oo 4 (.assign (.const (.bool false)))] ∧ RR r13_1 [oo 5 (oi 0)] ∧ RR r13_2 [oo 6 (oM 5), oo 7 (oM 0), oo 8 (oN 7 39), oo 9 (oB .lss 3 6 8)] ∧ RR r13_4 [oo 12 (oM 0), oo 13 (oM 5), oo 14 (oI 39 12 13), oo 15 (oL 3 14), oo 16 (oM 1), oo 17 (oB .eql 3 15 16)] ∧ RR r13_5 [oo 4 (.assign (.const (.bool true)))] ∧ RR r13_3 [oo 10 (oM 5), oo 11 (oC .add 3 10 1), oo 5 (oG 11)] ∧ RI b13_0 (.seq (.seq (r13_2) (.cond (.tmp 9) (.skip) (.exit 0))) (.seq (.block 1 (.seq (r13_4) (.cond (.tmp 17) (.seq (r13_5) (.ret)) (.skip)))) (r13_3))) ∧ KeepS T 13 b13_0 [0, 1, 5] ∧ RR r13_6 [oo 4 (.assign (.const (.bool false)))] ∧ FinF T 13 [.tmp 4] false := by refine ⟨runR T ?_, runR T ?_, runR T ?_, runR T ?_, runR T ?_, runR T ?_, runIc T ?_, keepS T ?_, runR T ?_, finI T (F := Tryz.f13) ?_ ?_ ?_⟩ <;> kernel_rfl
def r24_0 := nv 2 Tryz.f24
def r24_1 := nv 12 Tryz.f24
def b24_0 := nv 52 Tryz.f24
def r24_2 := nv 104 Tryz.f24
def r24_3 := nv 1688 Tryz.f24
def r24_4 := nv 3378 Tryz.f24
def r24_5 := nv 13516 Tryz.f24
def r24_6 := nv 423 Tryz.f24
def r24_7 := nv 14 Tryz.f24
theorem ent24 : Ent T 24 15 (.seq (r24_0) (.seq (.seq (r24_1) (.block 0 (.loop b24_0))) (.seq (r24_7) (.ret)))) := entI T (F := Tryz.f24) (by kernel_rfl) (by kernel_rfl) (by kernel_rfl)
@[go_sem ↓] theorem run24 : RR r24_0 [oo 2 (oi 0)] ∧ RR r24_1 [oo 5 (oM 0), oo 6 (oN 5 114), oo 7 (.move (.const (.int .i64 0)))] ∧ RR r24_2 [oo 8 (oB .lss 3 7 6)] ∧ RR r24_3 [oo 9 (oI 114 5 7), oo 10 (oL 41 9), oo 4 (oG 10)] ∧ RR r24_4 [oo 11 (oM 4), oo 12 (oC .neq 41 11 0)] ∧ RR r24_5 [oo 13 (oM 4), oo 2 (oG 13)] ∧ RR r24_6 [oo 14 (oC .add 3 7 1), oo 7 (oM 14)] ∧ RI b24_0 (.seq (r24_2) (.seq (.cond (.tmp 8) (.skip) (.exit 0)) (.seq (.block 1 (.seq (r24_3) (.seq (r24_4) (.cond (.tmp 12) (.seq (r24_5) (.ret)) (.skip))))) (r24_6)))) ∧ KeepS T 24 b24_0 [5, 6, 7] ∧ RR r24_7 [oo 2 (oi 0)] ∧ FinF T 24 [.tmp 2] false := by refine ⟨runR T ?_, runR T ?_, runR T ?_, runR T ?_, runR T ?_, runR T ?_, runR T ?_, runIc T ?_, keepS T ?_, runR T ?_, finI T (F := Tryz.f24) ?_ ?_ ?_⟩ <;> kernel_rfl
@[go_sem] theorem fr47 : Fct T 47 false none false ∧ Res1 T 47 41 := by refine ⟨⟨?_, ?_, ?_⟩, res1 T (F := Tryz.f47) ?_ ?_⟩ <;> kernel_rfl
def r25_0 := nv 2 Tryz.f25
def r25_1 := nv 6 Tryz.f25
theorem ent25 : Ent T 25 11 (.seq (r25_0) (.seq (r25_1) (.ret))) := entI T (F := Tryz.f25) (by kernel_rfl) (by kernel_rfl) (by kernel_rfl)
@[go_sem ↓] theorem run25 : RR r25_0 [oo 1 (.box 33 (.tmp 0)), oo 2 (oi 0)] ∧ RD r25_1 25 [oo 3 (oF 33 1 0), oo 4 (oL 3 3), oo 5 (.call ⟨.value (.func 47), #[.tmp 4, .const (.int .i64 0), .const (.int .i64 3)], #[3, 3, 3]⟩), oo 6 (oF 33 1 1), oo 7 (oL 31 6), oo 8 (o1 26 7 31), oo 9 (.buildSlice 114 2 #[(0, .tmp 5), (1, .tmp 8)]), oo 10 (o1 24 9 114), oo 2 (oG 10)] [(0, 3), (1, 3), (2, 3), (0, 4), (1, 4), (2, 4)] ∧ FinF T 25 [.tmp 2] false := by refine ⟨runR T ?_, runD T (id := 1) ?_ ?_, finI T (F := Tryz.f25) ?_ ?_ ?_⟩ <;> kernel_rfl
def r26_0 := nv 2 Tryz.f26
def r26_1 := nv 6 Tryz.f26
theorem ent26 : Ent T 26 11 (.seq (r26_0) (.seq (r26_1) (.ret))) := entI T (F := Tryz.f26) (by kernel_rfl) (by kernel_rfl) (by kernel_rfl)
@[go_sem ↓] theorem run26 : RR r26_0 [oo 1 (.box 31 (.tmp 0)), oo 2 (oi 0)] ∧ RD r26_1 26 [oo 3 (oF 31 1 0), oo 4 (oL 3 3), oo 5 (.call ⟨.value (.func 47), #[.tmp 4, .const (.int .i64 (-1000)), .const (.int .i64 1000)], #[3, 3, 3]⟩), oo 6 (oF 31 1 1), oo 7 (oL 3 6), oo 8 (.call ⟨.value (.func 47), #[.tmp 7, .const (.int .i64 (-1000)), .const (.int .i64 1000)], #[3, 3, 3]⟩), oo 9 (.buildSlice 114 2 #[(0, .tmp 5), (1, .tmp 8)]), oo 10 (o1 24 9 114), oo 2 (oG 10)] [(0, 3), (1, 3), (2, 3), (0, 4), (1, 4), (2, 4)] ∧ FinF T 26 [.tmp 2] false := by refine ⟨runR T ?_, runD T (id := 1) ?_ ?_, finI T (F := Tryz.f26) ?_ ?_ ?_⟩ <;> kernel_rfl
@[go_sem] theorem fr68 : Fct T 68 false none false ∧ Res1 T 68 31 := by refine ⟨⟨?_, ?_, ?_⟩, res1 T (F := Tryz.f68) ?_ ?_⟩ <;> kernel_rfl
def r27_0 := nv 2 Tryz.f27
def r27_1 := nv 6 Tryz.f27
theorem ent27 : Ent T 27 15 (.seq (r27_0) (.seq (r27_1) (.ret))) := entI T (F := Tryz.f27) (by kernel_rfl) (by kernel_rfl) (by kernel_rfl)
@[go_sem ↓] theorem run27 : RR r27_0 [oo 2 (.box 33 (.tmp 0)), oo 3 (.box 31 (.tmp 1)), oo 4 (.alloc 31)] ∧ RD r27_1 27 [oo 5 (oF 33 2 0), oo 6 (oL 3 5), oo 7 (.indexAddr 110 (.global 0) (.tmp 6)), oo 8 (oF 109 7 1), oo 9 (oL 107 8), oo 10 (oL 31 3), oo 11 (.call ⟨.value (.tmp 9), #[.tmp 10], #[31]⟩), oo 12 (oF 33 2 1), oo 13 (oL 31 12), oo 14 (o2 68 11 13 31 31), ow 31 4 14] [(0, 5), (1, 5), (2, 5), (3, 5), (4, 5), (0, 7), (1, 7), (2, 7), (3, 7), (4, 7), (5, 7), (6, 7), (0, 8), (1, 8), (2, 8), (3, 8), (4, 8), (5, 8), (6, 8)] ∧ FinF T 27 [.cell 4 31] false := by refine ⟨runR T ?_, runD T (id := 1) ?_ ?_, finI T (F := Tryz.f27) ?_ ?_ ?_⟩ <;> kernel_rfl
def r28_0 := nv 2 Tryz.f28
def r28_1 := nv 6 Tryz.f28
theorem ent28 : Ent T 28 16 (.seq (r28_0) (.seq (r28_1) (.ret))) := entI T (F := Tryz.f28) (by kernel_rfl) (by kernel_rfl) (by kernel_rfl)
@[go_sem ↓] theorem run28 : RR r28_0 [oo 2 (.box 31 (.tmp 0)), oo 3 (.box 31 (.tmp 1)), oo 4 (.alloc 31)] ∧ RR r28_1 [oo 5 (oF 31 2 0), oo 6 (oL 3 5), oo 7 (oF 31 3 0), oo 8 (oL 3 7), oo 9 (oB .sub 3 6 8), oo 10 (oF 31 2 1), oo 11 (oL 3 10), oo 12 (oF 31 3 1), oo 13 (oL 3 12), oo 14 (oB .sub 3 11 13), oo 15 (.build 31 #[(0, .tmp 9), (1, .tmp 14)]), ow 31 4 15] ∧ FinF T 28 [.cell 4 31] false := by refine ⟨runR T ?_, runR T ?_, finI T (F := Tryz.f28) ?_ ?_ ?_⟩ <;> kernel_rfl
def r29_0 := nv 2 Tryz.f29
def r29_1 := nv 12 Tryz.f29
def r29_2 := nv 52 Tryz.f29
def r29_3 := nv 14 Tryz.f29
theorem ent29 : Ent T 29 7 (.seq (r29_0) (.seq (.seq (r29_1) (.cond (.tmp 5) (.seq (r29_2) (.ret)) (.skip))) (.seq (r29_3) (.ret)))) := entI T (F := Tryz.f29) (by kernel_rfl) (by kernel_rfl) (by kernel_rfl)
@[go_sem ↓] theorem run29 : RR r29_0 [oo 4 (oi 0)] ∧ RR r29_1 [oo 5 (oM 0)] ∧ RR r29_2 [oo 6 (oM 1), oo 4 (oG 6)] ∧ RR r29_3 [oo 4 (oi 0)] ∧ FinF T 29 [.tmp 4] false := by refine ⟨runR T ?_, runR T ?_, runR T ?_, runR T ?_, finI T (F := Tryz.f29) ?_ ?_ ?_⟩ <;> kernel_rfl
def r30_0 := nv 2 Tryz.f30
def r30_1 := nv 6 Tryz.f30
def r30_2 := nv 28 Tryz.f30
def b30_0 := nv 116 Tryz.f30
def r30_3 := nv 232 Tryz.f30
def r30_4 := nv 3736 Tryz.f30
def r30_5 := nv 3737 Tryz.f30
def r30_6 := nv 935 Tryz.f30
def r30_7 := nv 30 Tryz.f30
theorem ent30 : Ent T 30 22 (.seq (r30_0) (.seq (r30_1) (.seq (.seq (r30_2) (.block 0 (.loop b30_0))) (.seq (r30_7) (.ret))))) := entI T (F := Tryz.f30) (by kernel_rfl) (by kernel_rfl) (by kernel_rfl)
@[go_sem ↓] theorem run30 : RR r30_0 [oo 4 on] ∧ RR r30_1 [oo 5 on] ∧ RR r30_2 [oo 8 (oM 0), oo 9 (oN 8 36), oo 10 (.move (.const (.int .i64 0)))] ∧ RR r30_3 [oo 11 (oB .lss 3 10 9)] ∧ RR r30_4 [oo 12 (oI 36 8 10), oo 13 (oL 52 12), oo 7 (.alloc 52), ow 52 7 13] ∧ RR r30_5 [oo 14 (oM 5), oo 15 (oM 1), oo 16 (oL 52 7), oo 17 (.call ⟨.value (.tmp 15), #[.tmp 16], #[52]⟩), oo 18 (oS 114 17), oo 19 (oA 14 18 114), oo 5 (oG 19)] ∧ RR r30_6 [oo 20 (oC .add 3 10 1), oo 10 (oM 20)] ∧ RI b30_0 (.seq (r30_3) (.seq (.cond (.tmp 11) (.skip) (.exit 0)) (.seq (.block 1 (.seq (r30_4) (r30_5))) (r30_6)))) ∧ KeepS T 30 b30_0 [1, 5, 8, 9, 10] ∧ RR r30_7 [oo 21 (oM 5), oo 4 (oG 21)] ∧ FinF T 30 [.tmp 4] false := by refine ⟨runR T ?_, runR T ?_, runR T ?_, runR T ?_, runR T ?_, runR T ?_, runR T ?_, runIc T ?_, keepS T ?_, runR T ?_, finI T (F := Tryz.f30) ?_ ?_ ?_⟩ <;> kernel_rfl
def r31_0 := nv 2 Tryz.f31
def r31_1 := nv 6 Tryz.f31
theorem ent31 : Ent T 31 16 (.seq (r31_0) (.seq (r31_1) (.ret))) := entI T (F := Tryz.f31) (by kernel_rfl) (by kernel_rfl) (by kernel_rfl)
@[go_sem ↓] theorem run31 : RR r31_0 [oo 1 (.box 52 (.tmp 0)), oo 2 (oi 0)] ∧ RD r31_1 31 [oo 3 (oF 52 1 0), oo 4 (oF 31 3 0), oo 5 (oL 3 4), oo 6 (.call ⟨.value (.func 47), #[.tmp 5, .const (.int .i64 0), .const (.int .i64 15)], #[3, 3, 3]⟩), oo 7 (oF 52 1 0), oo 8 (oF 31 7 1), oo 9 (oL 3 8), oo 10 (.call ⟨.value (.func 47), #[.tmp 9, .const (.int .i64 0), .const (.int .i64 15)], #[3, 3, 3]⟩), oo 11 (oF 52 1 1), oo 12 (oL 3 11), oo 13 (.call ⟨.value (.func 47), #[.tmp 12, .const (.int .i64 1), .const (.int .i64 256)], #[3, 3, 3]⟩), oo 14 (.buildSlice 114 3 #[(0, .tmp 6), (1, .tmp 10), (2, .tmp 13)]), oo 15 (o1 24 14 114), oo 2 (oG 15)] [(0, 4), (1, 4), (2, 4), (3, 4), (0, 5), (1, 5), (2, 5), (3, 5), (0, 6), (1, 6), (2, 6), (3, 6), (0, 8), (1, 8), (2, 8), (3, 8), (4, 8), (5, 8), (6, 8), (7, 8), (0, 9), (1, 9), (2, 9), (3, 9), (4, 9), (5, 9), (6, 9), (7, 9)] ∧ FinF T 31 [.tmp 2] false := by refine ⟨runR T ?_, runD T (id := 1) ?_ ?_, finI T (F := Tryz.f31) ?_ ?_ ?_⟩ <;> kernel_rfl
@[go_sem] theorem fr69 : Fct T 69 false none false ∧ Res1 T 69 4 := by refine ⟨⟨?_, ?_, ?_⟩, res1 T (F := Tryz.f69) ?_ ?_⟩ <;> kernel_rfl
@[go_sem] theorem fr70 : Fct T 70 false none false ∧ Res1 T 70 4 := by refine ⟨⟨?_, ?_, ?_⟩, res1 T (F := Tryz.f70) ?_ ?_⟩ <;> kernel_rfl
@[go_sem] theorem fr71 : Fct T 71 false none false ∧ Res1 T 71 4 := by refine ⟨⟨?_, ?_, ?_⟩, res1 T (F := Tryz.f71) ?_ ?_⟩ <;> kernel_rfl
def r32_0 := nv 2 Tryz.f32
def r32_1 := nv 12 Tryz.f32
def r32_2 := nv 52 Tryz.f32
def r32_3 := nv 28 Tryz.f32
def b32_0 := nv 116 Tryz.f32
def r32_4 := nv 232 Tryz.f32
def r32_5 := nv 3736 Tryz.f32
def r32_6 := nv 7474 Tryz.f32
def r32_7 := nv 14950 Tryz.f32
def r32_8 := nv 29902 Tryz.f32
def r32_9 := nv 59806 Tryz.f32
def r32_10 := nv 239228 Tryz.f32
def r32_11 := nv 935 Tryz.f32
def r32_12 := nv 30 Tryz.f32
theorem ent32 : Ent T 32 41 (.seq (r32_0) (.seq (.seq (r32_1) (.cond (.tmp 10) (.seq (r32_2) (.ret)) (.skip))) (.seq (.seq (r32_3) (.block 0 (.loop b32_0))) (.seq (r32_12) (.ret))))) := entI T (F := Tryz.f32) (by kernel_rfl) (by kernel_rfl) (by kernel_rfl)
@[go_sem ↓] theorem run32 : RR r32_0 [oo 2 (oi 0)] ∧ RR r32_1 [oo 8 (oM 0), oo 9 (oN 8 35), oo 10 (oC .gtr 3 9 64)] ∧ RR r32_2 [oo 2 (oi 5)] ∧ RR r32_3 [oo 11 (oM 0), oo 12 (oN 11 35), oo 13 (.move (.const (.int .i64 0)))] ∧ RR r32_4 [oo 14 (oB .lss 3 13 12)] ∧ RR r32_5 [oo 15 (oM 13), oo 16 (oI 35 11 13), oo 17 (oL 47 16), oo 4 (.alloc 47), oo 3 (oG 15), ow 47 4 17] ∧ RR r32_6 [oo 18 (.makeFunc (.func 69) #[] #[.tmp 4]), oo 5 (oG 18)] ∧ RR r32_7 [oo 19 (.makeFunc (.func 70) #[] #[.tmp 4]), oo 6 (oG 19)] ∧ RD r32_8 32 [oo 20 (oF 47 4 1), oo 21 (oL 31 20), oo 22 (o1 26 21 31), oo 23 (oM 0), oo 24 (oM 3), oo 25 (.slice 35 (.tmp 23) none (some (.tmp 24)) none), oo 26 (oM 5), oo 27 (o2 71 25 26 35 159), oo 28 (.call ⟨.value (.func 29), #[.tmp 27, .const (.int .i64 9)], #[4, 41]⟩), oo 29 (oM 0), oo 30 (oM 3), oo 31 (.slice 35 (.tmp 29) none (some (.tmp 30)) none), oo 32 (oM 6), oo 33 (o2 71 31 32 35 159), oo 34 (.call ⟨.value (.func 29), #[.tmp 33, .const (.int .i64 15)], #[4, 41]⟩), oo 35 (.buildSlice 114 3 #[(0, .tmp 22), (1, .tmp 28), (2, .tmp 34)]), oo 36 (o1 24 35 114), oo 7 (oG 36)] [(0, 3), (1, 3), (2, 3), (0, 4), (1, 4), (2, 4), (3, 4), (0, 5), (1, 5), (2, 5), (0, 6), (1, 6), (2, 6), (3, 6), (4, 6), (5, 6), (0, 9), (1, 9), (2, 9), (3, 9), (4, 9), (5, 9), (6, 9), (7, 9), (8, 9), (0, 10), (1, 10), (2, 10), (3, 10), (4, 10), (5, 10), (6, 10), (7, 10), (8, 10), (9, 10), (0, 11), (1, 11), (2, 11), (3, 11), (4, 11), (5, 11), (6, 11), (7, 11), (8, 11), (0, 12), (1, 12), (2, 12), (3, 12), (4, 12), (5, 12), (6, 12), (7, 12), (8, 12), (9, 12), (10, 12), (11, 12)] ∧ RR r32_9 [oo 37 (oM 7), oo 38 (oC .neq 41 37 0)] ∧ RR r32_10 [oo 39 (oM 7), oo 2 (oG 39)] ∧ RR r32_11 [oo 40 (oC .add 3 13 1), oo 13 (oM 40)] ∧ RI b32_0 (.seq (r32_4) (.seq (.cond (.tmp 14) (.skip) (.exit 0)) (.seq (.block 1 (.seq (r32_5) (.seq (r32_6) (.seq (r32_7) (.seq (r32_8) (.seq (r32_9) (.cond (.tmp 38) (.seq (r32_10) (.ret)) (.skip)))))))) (r32_11)))) ∧ KeepS T 32 b32_0 [0, 11, 12, 13] ∧ RR r32_12 [oo 2 (oi 0)] ∧ FinF T 32 [.tmp 2] false := by refine ⟨runR T ?_, runR T ?_, runR T ?_, runR T ?_, runR T ?_, runR T ?_, runR T ?_, runR T ?_, runD T (id := 8) ?_ ?_, runR T ?_, runR T ?_, runR T ?_, runIc T ?_, keepS T ?_, runR T ?_, finI T (F := Tryz.f32) ?_ ?_ ?_⟩ <;> kernel_rfl
def r33_0 := nv 2 Tryz.f33
def r33_1 := nv 6 Tryz.f33
theorem ent33 : Ent T 33 14 (.seq (r33_0) (.seq (r33_1) (.ret))) := entI T (F := Tryz.f33) (by kernel_rfl) (by kernel_rfl) (by kernel_rfl)
@[go_sem ↓] theorem run33 : RR r33_0 [oo 4 (oi 0)] ∧ RR r33_1 [oo 5 (oM 0), oo 6 (oC .eql 3 5 0), oo 7 (.call ⟨.value (.func 29), #[.tmp 6, .const (.int .i64 12)], #[4, 41]⟩), oo 8 (oM 0), oo 9 (oM 1), oo 10 (oB .gtr 3 8 9), oo 11 (.call ⟨.value (.func 29), #[.tmp 10, .const (.int .i64 5)], #[4, 41]⟩), oo 12 (.buildSlice 114 2 #[(0, .tmp 7), (1, .tmp 11)]), oo 13 (o1 24 12 114), oo 4 (oG 13)] ∧ FinF T 33 [.tmp 4] false := by refine ⟨runR T ?_, runR T ?_, finI T (F := Tryz.f33) ?_ ?_ ?_⟩ <;> kernel_rfl
def r34_0 := nv 2 Tryz.f34
def r34_1 := nv 6 Tryz.f34
def r34_2 := nv 28 Tryz.f34
def b34_0 := nv 116 Tryz.f34
def r34_3 := nv 232 Tryz.f34
def r34_4 := nv 3736 Tryz.f34
def r34_5 := nv 3737 Tryz.f34
def r34_6 := nv 935 Tryz.f34
def r34_7 := nv 30 Tryz.f34
theorem ent34 : Ent T 34 22 (.seq (r34_0) (.seq (r34_1) (.seq (.seq (r34_2) (.block 0 (.loop b34_0))) (.seq (r34_7) (.ret))))) := entI T (F := Tryz.f34) (by kernel_rfl) (by kernel_rfl) (by kernel_rfl)
@[go_sem ↓] theorem run34 : RR r34_0 [oo 4 on] ∧ RR r34_1 [oo 5 on] ∧ RR r34_2 [oo 8 (oM 0), oo 9 (oN 8 34), oo 10 (.move (.const (.int .i64 0)))] ∧ RR r34_3 [oo 11 (oB .lss 3 10 9)] ∧ RR r34_4 [oo 12 (oI 34 8 10), oo 13 (oL 31 12), oo 7 (.alloc 31), ow 31 7 13] ∧ RR r34_5 [oo 14 (oM 5), oo 15 (oM 1), oo 16 (oL 31 7), oo 17 (.call ⟨.value (.tmp 15), #[.tmp 16], #[31]⟩), oo 18 (oS 114 17), oo 19 (oA 14 18 114), oo 5 (oG 19)] ∧ RR r34_6 [oo 20 (oC .add 3 10 1), oo 10 (oM 20)] ∧ RI b34_0 (.seq (r34_3) (.seq (.cond (.tmp 11) (.skip) (.exit 0)) (.seq (.block 1 (.seq (r34_4) (r34_5))) (r34_6)))) ∧ KeepS T 34 b34_0 [1, 5, 8, 9, 10] ∧ RR r34_7 [oo 21 (oM 5), oo 4 (oG 21)] ∧ FinF T 34 [.tmp 4] false := by refine ⟨runR T ?_, runR T ?_, runR T ?_, runR T ?_, runR T ?_, runR T ?_, runR T ?_, runIc T ?_, keepS T ?_, runR T ?_, finI T (F := Tryz.f34) ?_ ?_ ?_⟩ <;> kernel_rfl
def r47_0 := nv 2 Tryz.f47
def r47_1 := nv 6 Tryz.f47
theorem ent47 : Ent T 47 16 (.seq (r47_0) (.seq (r47_1) (.ret))) := entI T (F := Tryz.f47) (by kernel_rfl) (by kernel_rfl) (by kernel_rfl)
@[go_sem ↓] theorem run47 : RR r47_0 [oo 6 (oi 0)] ∧ RR r47_1 [oo 7 (oM 0), oo 8 (oM 1), oo 9 (oB .lss 3 7 8), oo 10 (oM 9), of 11 (oM 0) 10, of 12 (oM 2) 10, of 13 (oB .gtr 3 11 12) 10, oo 14 (.pick (.tmp 10) (.const (.bool true)) (.tmp 13)), oo 15 (.call ⟨.value (.func 29), #[.tmp 14, .const (.int .i64 3)], #[4, 41]⟩), oo 6 (oG 15)] ∧ FinF T 47 [.tmp 6] false := by refine ⟨runR T ?_, runR T ?_, finI T (F := Tryz.f47) ?_ ?_ ?_⟩ <;> kernel_rfl
def r68_0 := nv 2 Tryz.f68
def r68_1 := nv 6 Tryz.f68
theorem ent68 : Ent T 68 16 (.seq (r68_0) (.seq (r68_1) (.ret))) := entI T (F := Tryz.f68) (by kernel_rfl) (by kernel_rfl) (by kernel_rfl)
@[go_sem ↓] theorem run68 : RR r68_0 [oo 2 (.box 31 (.tmp 0)), oo 3 (.box 31 (.tmp 1)), oo 4 (.alloc 31)] ∧ RR r68_1 [oo 5 (oF 31 2 0), oo 6 (oL 3 5), oo 7 (oF 31 3 0), oo 8 (oL 3 7), oo 9 (oB .add 3 6 8), oo 10 (oF 31 2 1), oo 11 (oL 3 10), oo 12 (oF 31 3 1), oo 13 (oL 3 12), oo 14 (oB .add 3 11 13), oo 15 (.build 31 #[(0, .tmp 9), (1, .tmp 14)]), ow 31 4 15] ∧ FinF T 68 [.cell 4 31] false := by refine ⟨runR T ?_, runR T ?_, finI T (F := Tryz.f68) ?_ ?_ ?_⟩ <;> kernel_rfl
def r69_0 := nv 2 Tryz.f69
def r69_1 := nv 6 Tryz.f69
theorem ent69 : Ent T 69 9 (.seq (r69_0) (.seq (r69_1) (.ret))) := entI T (F := Tryz.f69) (by kernel_rfl) (by kernel_rfl) (by kernel_rfl)
@[go_sem ↓] theorem run69 : RR r69_0 [oo 2 (.box 47 (.tmp 0)), oo 3 (.assign (.const (.bool false)))] ∧ RR r69_1 [oo 4 (oF 47 2 0), oo 5 (oL 45 4), oo 6 (oF 47 1 0), oo 7 (oL 45 6), oo 8 (oB .eql 45 5 7), oo 3 (oG 8)] ∧ FinF T 69 [.tmp 3] false := by refine ⟨runR T ?_, runR T ?_, finI T (F := Tryz.f69) ?_ ?_ ?_⟩ <;> kernel_rfl
def r70_0 := nv 2 Tryz.f70
def r70_1 := nv 6 Tryz.f70
theorem ent70 : Ent T 70 9 (.seq (r70_0) (.seq (r70_1) (.ret))) := entI T (F := Tryz.f70) (by kernel_rfl) (by kernel_rfl) (by kernel_rfl)
@[go_sem ↓] theorem run70 : RR r70_0 [oo 2 (.box 47 (.tmp 0)), oo 3 (.assign (.const (.bool false)))] ∧ RR r70_1 [oo 4 (oF 47 2 1), oo 5 (oL 31 4), oo 6 (oF 47 1 1), oo 7 (oL 31 6), oo 8 (oB .eql 31 5 7), oo 3 (oG 8)] ∧ FinF T 70 [.tmp 3] false := by refine ⟨runR T ?_, runR T ?_, finI T (F := Tryz.f70) ?_ ?_ ?_⟩ <;> kernel_rfl
@[go_sem] theorem fr107 : Fct T 107 false none false ∧ Res1 T 107 3 := by refine ⟨⟨?_, ?_, ?_⟩, res1 T (F := Tryz.f107) ?_ ?_⟩ <;> kernel_rfl
def r71_0 := nv 2 Tryz.f71
def r71_1 := nv 6 Tryz.f71
theorem ent71 : Ent T 71 9 (.seq (r71_0) (.seq (r71_1) (.ret))) := entI T (F := Tryz.f71) (by kernel_rfl) (by kernel_rfl) (by kernel_rfl)
@[go_sem ↓] theorem run71 : RR r71_0 [oo 4 (.assign (.const (.bool false)))] ∧ RR r71_1 [oo 5 (oM 0), oo 6 (oM 1), oo 7 (o2 107 5 6 35 159), oo 8 (oC .geq 3 7 0), oo 4 (oG 8)] ∧ FinF T 71 [.tmp 4] false := by refine ⟨runR T ?_, runR T ?_, finI T (F := Tryz.f71) ?_ ?_ ?_⟩ <;> kernel_rfl
def r107_0 := nv 2 Tryz.f107
def r107_1 := nv 12 Tryz.f107
def b107_0 := nv 52 Tryz.f107
def r107_2 := nv 104 Tryz.f107
def r107_3 := nv 1688 Tryz.f107
def r107_4 := nv 3378 Tryz.f107
def r107_5 := nv 13516 Tryz.f107
def r107_6 := nv 423 Tryz.f107
def r107_7 := nv 14 Tryz.f107
theorem ent107 : Ent T 107 19 (.seq (r107_0) (.seq (.seq (r107_1) (.block 0 (.loop b107_0))) (.seq (r107_7) (.ret)))) := entI T (F := Tryz.f107) (by kernel_rfl) (by kernel_rfl) (by kernel_rfl)
@[go_sem ↓] theorem run107 : RR r107_0 [oo 4 (oi 0)] ∧ RR r107_1 [oo 6 (oM 0), oo 7 (oN 6 35), oo 8 (.move (.const (.int .i64 0)))] ∧ RR r107_2 [oo 9 (oB .lss 3 8 7)] ∧ RR r107_3 [oo 10 (oM 8), oo 5 (oG 10)] ∧ RR r107_4 [oo 11 (oM 1), oo 12 (oM 0), oo 13 (oM 5), oo 14 (oI 35 12 13), oo 15 (oL 47 14), oo 16 (.call ⟨.value (.tmp 11), #[.tmp 15], #[47]⟩)] ∧ RR r107_5 [oo 17 (oM 5), oo 4 (oG 17)] ∧ RR r107_6 [oo 18 (oC .add 3 8 1), oo 8 (oM 18)] ∧ RI b107_0 (.seq (r107_2) (.seq (.cond (.tmp 9) (.skip) (.exit 0)) (.seq (.block 1 (.seq (r107_3) (.seq (r107_4) (.cond (.tmp 16) (.seq (r107_5) (.ret)) (.skip))))) (r107_6)))) ∧ KeepS T 107 b107_0 [0, 1, 7, 8] ∧ RR r107_7 [oo 4 (oi (-1))] ∧ FinF T 107 [.tmp 4] false := by refine ⟨runR T ?_, runR T ?_, runR T ?_, runR T ?_, runR T ?_, runR T ?_, runR T ?_, runIc T ?_, keepS T ?_, runR T ?_, finI T (F := Tryz.f107) ?_ ?_ ?_⟩ <;> kernel_rfl
@[go_sem] theorem fr170 : Fct T 170 false none false ∧ Res1 T 170 31 := by refine ⟨⟨?_, ?_, ?_⟩, res1 T (F := Tryz.f170) ?_ ?_⟩ <;> kernel_rfl
def r170_0 := nv 2 Tryz.f170
def r170_1 := nv 6 Tryz.f170
theorem ent170 : Ent T 170 4 (.seq (r170_0) (.seq (r170_1) (.ret))) := entI T (F := Tryz.f170) (by kernel_rfl) (by kernel_rfl) (by kernel_rfl)
@[go_sem ↓] theorem run170 : RR r170_0 [oo 1 (.box 31 (.tmp 0)), oo 2 (.alloc 31)] ∧ RR r170_1 [oo 3 (oL 31 1), ow 31 2 3] ∧ FinF T 170 [.cell 2 31] false := by refine ⟨runR T ?_, runR T ?_, finI T (F := Tryz.f170) ?_ ?_ ?_⟩ <;> kernel_rfl
@[go_sem] theorem fr171 : Fct T 171 false none false ∧ Res1 T 171 31 := by refine ⟨⟨?_, ?_, ?_⟩, res1 T (F := Tryz.f171) ?_ ?_⟩ <;> kernel_rfl
def r171_0 := nv 2 Tryz.f171
def r171_1 := nv 6 Tryz.f171
theorem ent171 : Ent T 171 9 (.seq (r171_0) (.seq (r171_1) (.ret))) := entI T (F := Tryz.f171) (by kernel_rfl) (by kernel_rfl) (by kernel_rfl)
@[go_sem ↓] theorem run171 : RR r171_0 [oo 1 (.box 31 (.tmp 0)), oo 2 (.alloc 31)] ∧ RR r171_1 [oo 3 (oF 31 1 1), oo 4 (oL 3 3), oo 5 (.unOp .neg 3 (.tmp 4)), oo 6 (oF 31 1 0), oo 7 (oL 3 6), oo 8 (.build 31 #[(0, .tmp 5), (1, .tmp 7)]), ow 31 2 8] ∧ FinF T 171 [.cell 2 31] false := by refine ⟨runR T ?_, runR T ?_, finI T (F := Tryz.f171) ?_ ?_ ?_⟩ <;> kernel_rfl
@[go_sem] theorem fr172 : Fct T 172 false none false ∧ Res1 T 172 31 := by refine ⟨⟨?_, ?_, ?_⟩, res1 T (F := Tryz.f172) ?_ ?_⟩ <;> kernel_rfl
def r172_0 := nv 2 Tryz.f172
def r172_1 := nv 6 Tryz.f172
theorem ent172 : Ent T 172 10 (.seq (r172_0) (.seq (r172_1) (.ret))) := entI T (F := Tryz.f172) (by kernel_rfl) (by kernel_rfl) (by kernel_rfl)
@[go_sem ↓] theorem run172 : RR r172_0 [oo 1 (.box 31 (.tmp 0)), oo 2 (.alloc 31)] ∧ RR r172_1 [oo 3 (oF 31 1 0), oo 4 (oL 3 3), oo 5 (.unOp .neg 3 (.tmp 4)), oo 6 (oF 31 1 1), oo 7 (oL 3 6), oo 8 (.unOp .neg 3 (.tmp 7)), oo 9 (.build 31 #[(0, .tmp 5), (1, .tmp 8)]), ow 31 2 9] ∧ FinF T 172 [.cell 2 31] false := by refine ⟨runR T ?_, runR T ?_, finI T (F := Tryz.f172) ?_ ?_ ?_⟩ <;> kernel_rfl
@[go_sem] theorem fr173 : Fct T 173 false none false ∧ Res1 T 173 31 := by refine ⟨⟨?_, ?_, ?_⟩, res1 T (F := Tryz.f173) ?_ ?_⟩ <;> kernel_rfl
def r173_0 := nv 2 Tryz.f173
def r173_1 := nv 6 Tryz.f173
theorem ent173 : Ent T 173 9 (.seq (r173_0) (.seq (r173_1) (.ret))) := entI T (F := Tryz.f173) (by kernel_rfl) (by kernel_rfl) (by kernel_rfl)
@[go_sem ↓] theorem run173 : RR r173_0 [oo 1 (.box 31 (.tmp 0)), oo 2 (.alloc 31)] ∧ RR r173_1 [oo 3 (oF 31 1 1), oo 4 (oL 3 3), oo 5 (oF 31 1 0), oo 6 (oL 3 5), oo 7 (.unOp .neg 3 (.tmp 6)), oo 8 (.build 31 #[(0, .tmp 4), (1, .tmp 7)]), ow 31 2 8] ∧ FinF T 173 [.cell 2 31] false := by refine ⟨runR T ?_, runR T ?_, finI T (F := Tryz.f173) ?_ ?_ ?_⟩ <;> kernel_rfl
@[go_sem] theorem fr11 : Fct T 11 false none false ∧ Res2 T 11 39 3 [41] := by refine ⟨⟨?_, ?_, ?_⟩, res2 T (F := Tryz.f11) ?_ ?_⟩ <;> kernel_rfl
@[go_sem] theorem fr35 : Fct T 35 false none false ∧ Res1 T 35 41 := by refine ⟨⟨?_, ?_, ?_⟩, res1 T (F := Tryz.f35) ?_ ?_⟩ <;> kernel_rfl
@[go_sem] theorem fr36 : Fct T 36 false none false ∧ Res2 T 36 39 3 [] := by refine ⟨⟨?_, ?_, ?_⟩, res2 T (F := Tryz.f36) ?_ ?_⟩ <;> kernel_rfl
def r11_0 := nv 2 Tryz.f11
def r11_1 := nv 12 Tryz.f11
def r11_2 := nv 26 Tryz.f11
def r11_3 := nv 108 Tryz.f11
def r11_4 := nv 14 Tryz.f11
def r11_5 := nv 30 Tryz.f11
theorem ent11 : Ent T 11 28 (.seq (r11_0) (.seq (.seq (r11_1) (.seq (r11_2) (.cond (.tmp 17) (.seq (r11_3) (.ret)) (.skip)))) (.seq (r11_4) (.seq (r11_5) (.ret))))) := entI T (F := Tryz.f11) (by kernel_rfl) (by kernel_rfl) (by kernel_rfl)
@[go_sem ↓] theorem run11 : RR r11_0 [oo 3 (.box 58 (.tmp 0)), oo 6 on, oo 7 (oi 0), oo 8 (oi 0)] ∧ RR r11_1 [oo 12 (oL 58 3), oo 13 (oM 1), oo 14 (oM 2), oo 15 (.call ⟨.value (.func 35), #[.tmp 12, .tmp 13, .tmp 14, .const (.bool true)], #[58, 37, 39, 4]⟩), oo 9 (oG 15)] ∧ RR r11_2 [oo 16 (oM 9), oo 17 (oC .neq 41 16 0)] ∧ RR r11_3 [oo 18 (oM 9), oo 6 on, oo 7 (oi 0), oo 8 (oG 18)] ∧ RR r11_4 [oo 20 (oL 58 3), oo 21 (oM 1), oo 22 (oM 2), oo 23 (.call ⟨.value (.func 36), #[.tmp 20, .tmp 21, .tmp 22], #[58, 37, 39]⟩), oo 19 (oM 23), oo 24 (oX 19 0), oo 25 (oX 19 1), oo 10 (oG 24), oo 11 (oG 25)] ∧ RR r11_5 [oo 26 (oM 10), oo 27 (oM 11), oo 6 (oG 26), oo 7 (oG 27), oo 8 (oi 0)] ∧ FinF T 11 [.tmp 6, .tmp 7, .tmp 8] false := by refine ⟨runR T ?_, runR T ?_, runR T ?_, runR T ?_, runR T ?_, runR T ?_, finI T (F := Tryz.f11) ?_ ?_ ?_⟩ <;> kernel_rfl
@[go_sem] theorem fr12 : Fct T 12 false none false ∧ Res2 T 12 3 41 [] := by refine ⟨⟨?_, ?_, ?_⟩, res2 T (F := Tryz.f12) ?_ ?_⟩ <;> kernel_rfl
@[go_sem] theorem fr37 : Fct T 37 false none false ∧ Res1 T 37 3 := by refine ⟨⟨?_, ?_, ?_⟩, res1 T (F := Tryz.f37) ?_ ?_⟩ <;> kernel_rfl
def r12_0 := nv 2 Tryz.f12
def r12_1 := nv 12 Tryz.f12
def r12_2 := nv 26 Tryz.f12
def r12_3 := nv 108 Tryz.f12
def r12_4 := nv 14 Tryz.f12
theorem ent12 : Ent T 12 20 (.seq (r12_0) (.seq (.seq (r12_1) (.seq (r12_2) (.cond (.tmp 14) (.seq (r12_3) (.ret)) (.skip)))) (.seq (r12_4) (.ret)))) := entI T (F := Tryz.f12) (by kernel_rfl) (by kernel_rfl) (by kernel_rfl)
@[go_sem ↓] theorem run12 : RR r12_0 [oo 3 (.box 58 (.tmp 0)), oo 6 (oi 0), oo 7 (oi 0)] ∧ RR r12_1 [oo 9 (oL 58 3), oo 10 (oM 1), oo 11 (oM 2), oo 12 (.call ⟨.value (.func 35), #[.tmp 9, .tmp 10, .tmp 11, .const (.bool false)], #[58, 37, 39, 4]⟩), oo 8 (oG 12)] ∧ RR r12_2 [oo 13 (oM 8), oo 14 (oC .neq 41 13 0)] ∧ RR r12_3 [oo 15 (oM 8), oo 6 (oi 0), oo 7 (oG 15)] ∧ RR r12_4 [oo 16 (oL 58 3), oo 17 (oM 1), oo 18 (oM 2), oo 19 (.call ⟨.value (.func 37), #[.tmp 16, .tmp 17, .tmp 18], #[58, 37, 39]⟩), oo 6 (oG 19), oo 7 (oi 0)] ∧ FinF T 12 [.tmp 6, .tmp 7] false := by refine ⟨runR T ?_, runR T ?_, runR T ?_, runR T ?_, runR T ?_, finI T (F := Tryz.f12) ?_ ?_ ?_⟩ <;> kernel_rfl
@[go_sem] theorem fr54 : Fct T 54 false none false ∧ Res1 T 54 41 := by refine ⟨⟨?_, ?_, ?_⟩, res1 T (F := Tryz.f54) ?_ ?_⟩ <;> kernel_rfl
@[go_sem] theorem fr55 : Fct T 55 false none false ∧ Res1 T 55 41 := by refine ⟨⟨?_, ?_, ?_⟩, res1 T (F := Tryz.f55) ?_ ?_⟩ <;> kernel_rfl
@[go_sem] theorem fr56 : Fct T 56 false none false ∧ Res1 T 56 41 := by refine ⟨⟨?_, ?_, ?_⟩, res1 T (F := Tryz.f56) ?_ ?_⟩ <;> kernel_rfl
@[go_sem] theorem fr63 : Fct T 63 false none false ∧ Res1 T 63 41 := by refine ⟨⟨?_, ?_, ?_⟩, res1 T (F := Tryz.f63) ?_ ?_⟩ <;> kernel_rfl
@[go_sem] theorem fr72 : Fct T 72 false none false ∧ Res1 T 72 4 := by refine ⟨⟨?_, ?_, ?_⟩, res1 T (F := Tryz.f72) ?_ ?_⟩ <;> kernel_rfl
def r35_0 := nv 2 Tryz.f35
def r35_1 := nv 12 Tryz.f35
def r35_2 := nv 26 Tryz.f35
def r35_3 := nv 108 Tryz.f35
def r35_4 := nv 28 Tryz.f35
def b35_0 := nv 116 Tryz.f35
def r35_5 := nv 232 Tryz.f35
def r35_6 := nv 3736 Tryz.f35
def r35_7 := nv 7474 Tryz.f35
def r35_8 := nv 29900 Tryz.f35
def r35_9 := nv 59802 Tryz.f35
def r35_10 := nv 29902 Tryz.f35
def r35_11 := nv 59806 Tryz.f35
def r35_12 := nv 239228 Tryz.f35
def r35_13 := nv 935 Tryz.f35
def r35_14 := nv 30 Tryz.f35
theorem ent35 : Ent T 35 66 (.seq (r35_0) (.seq (.seq (r35_1) (.seq (r35_2) (.cond (.tmp 21) (.seq (r35_3) (.ret)) (.skip)))) (.seq (.seq (r35_4) (.block 0 (.loop b35_0))) (.seq (r35_14) (.ret))))) := entI T (F := Tryz.f35) (by kernel_rfl) (by kernel_rfl) (by kernel_rfl)
@[go_sem ↓] theorem run35 : RR r35_0 [oo 4 (.box 58 (.tmp 0)), oo 8 (oi 0)] ∧ RR r35_1 [oo 14 (oL 58 4), oo 15 (o1 55 14 58), oo 16 (oM 1), oo 17 (o1 56 16 37), oo 18 (.buildSlice 114 2 #[(0, .tmp 15), (1, .tmp 17)]), oo 19 (o1 54 18 114), oo 9 (oG 19)] ∧ RR r35_2 [oo 20 (oM 9), oo 21 (oC .neq 41 20 0)] ∧ RR r35_3 [oo 22 (oM 9), oo 8 (oG 22)] ∧ RR r35_4 [oo 23 (oM 2), oo 24 (oN 23 39), oo 25 (.move (.const (.int .i64 0)))] ∧ RR r35_5 [oo 26 (oB .lss 3 25 24)] ∧ RR r35_6 [oo 27 (oM 25), oo 28 (oI 39 23 25), oo 29 (oL 3 28), oo 10 (oG 27), oo 11 (oG 29)] ∧ RR r35_7 [oo 30 (oM 2), oo 31 (oM 10), oo 32 (.slice 39 (.tmp 30) none (some (.tmp 31)) none), oo 33 (oM 11), oo 34 (o2 72 32 33 39 3), oo 35 (.call ⟨.value (.func 63), #[.tmp 34, .const (.int .i64 9)], #[4, 41]⟩), oo 12 (oG 35)] ∧ RR r35_8 [oo 36 (oM 3)] ∧ RR r35_9 [oo 37 (oM 10), oo 38 (oC .gtr 3 37 0), oo 39 (oM 38), ot 40 (oM 11) 39, ot 41 (oM 2) 39, ot 42 (oM 10) 39, ot 43 (.call ⟨.builtin .max, #[.tmp 42, .const (.int .i64 1)], #[3, 3]⟩) 39, ot 44 (oC .sub 3 43 1) 39, ot 45 (oI 39 41 44) 39, ot 46 (oL 3 45) 39, ot 47 (oB .leq 3 40 46) 39, oo 48 (.pick (.tmp 39) (.tmp 47) (.const (.bool false))), oo 49 (.call ⟨.value (.func 63), #[.tmp 48, .const (.int .i64 11)], #[4, 41]⟩), oo 12 (oG 49)] ∧ RR r35_10 [oo 50 (oM 11), oo 51 (oC .lss 3 50 0), oo 52 (oM 51), of 53 (oM 11) 52, of 54 (oM 1) 52, of 55 (oN 54 37) 52, of 56 (oB .geq 3 53 55) 52, oo 57 (.pick (.tmp 52) (.const (.bool true)) (.tmp 56)), oo 58 (.call ⟨.value (.func 63), #[.tmp 57, .const (.int .i64 10)], #[4, 41]⟩), oo 59 (oM 12), oo 60 (.buildSlice 114 2 #[(0, .tmp 58), (1, .tmp 59)]), oo 61 (o1 54 60 114), oo 13 (oG 61)] ∧ RR r35_11 [oo 62 (oM 13), oo 63 (oC .neq 41 62 0)] ∧ RR r35_12 [oo 64 (oM 13), oo 8 (oG 64)] ∧ RR r35_13 [oo 65 (oC .add 3 25 1), oo 25 (oM 65)] ∧ RI b35_0 (.seq (r35_5) (.seq (.cond (.tmp 26) (.skip) (.exit 0)) (.seq (.block 1 (.seq (r35_6) (.seq (r35_7) (.seq (.seq (r35_8) (.cond (.tmp 36) (r35_9) (.skip))) (.seq (r35_10) (.seq (r35_11) (.cond (.tmp 63) (.seq (r35_12) (.ret)) (.skip)))))))) (r35_13)))) ∧ KeepS T 35 b35_0 [1, 2, 3, 23, 24, 25] ∧ RR r35_14 [oo 8 (oi 0)] ∧ FinF T 35 [.tmp 8] false := by refine ⟨runR T ?_, runR T ?_, runR T ?_, runR T ?_, runR T ?_, runR T ?_, runR T ?_, runR T ?_, runR T ?_, runR T ?_, runR T ?_, runR T ?_, runR T ?_, runR T ?_, runIc T ?_, keepS T ?_, runR T ?_, finI T (F := Tryz.f35) ?_ ?_ ?_⟩ <;> kernel_rfl
@[go_sem] theorem fr73 : Fct T 73 true none false ∧ Res1 T 73 4 := by refine ⟨⟨?_, ?_, ?_⟩, res1 T (F := Tryz.f73) ?_ ?_⟩ <;> kernel_rfl
@[go_sem] theorem fr74 : Fct T 74 true none false ∧ Res1 T 74 4 := by refine ⟨⟨?_, ?_, ?_⟩, res1 T (F := Tryz.f74) ?_ ?_⟩ <;> kernel_rfl
def r36_0 := nv 2 Tryz.f36
def r36_1 := nv 6 Tryz.f36
def r36_2 := nv 14 Tryz.f36
def r36_3 := nv 30 Tryz.f36
def r36_4 := nv 62 Tryz.f36
theorem ent36 : Ent T 36 15 (.seq (r36_0) (.seq (r36_1) (.seq (r36_2) (.seq (r36_3) (.seq (r36_4) (.ret)))))) := entI T (F := Tryz.f36) (by kernel_rfl) (by kernel_rfl) (by kernel_rfl)
@[go_sem ↓] theorem run36 : RR r36_0 [oo 3 (.box 58 (.tmp 0)), oo 4 (.box 37 (.tmp 1)), oo 6 on, oo 7 (oi 0)] ∧ RR r36_1 [oo 8 (.alloc 39)] ∧ RR r36_2 [oo 9 (.alloc 3), ⟨none, .store 3 (.tmp 9) (.const (.int .i64 (-1))), none⟩] ∧ RR r36_3 [oo 10 (oM 2), oo 11 (.makeFunc (.func 74) #[] #[.tmp 3, .tmp 4, .tmp 9, .tmp 8]), oo 12 (.call ⟨.value (.func 73), #[.const (.slice none 0 0), .tmp 10, .tmp 11], #[39, 39, 127]⟩)] ∧ RD r36_4 36 [oo 13 (oL 39 8), oo 14 (oL 3 9), oo 6 (oG 13), oo 7 (oG 14)] [(0, 1), (1, 2)] ∧ FinF T 36 [.tmp 6, .tmp 7] false := by refine ⟨runR T ?_, runR T ?_, runR T ?_, runR T ?_, runD T (id := 4) ?_ ?_, finI T (F := Tryz.f36) ?_ ?_ ?_⟩ <;> kernel_rfl
@[go_sem] theorem fr76 : Fct T 76 false none false ∧ Res1 T 76 3 := by refine ⟨⟨?_, ?_, ?_⟩, res1 T (F := Tryz.f76) ?_ ?_⟩ <;> kernel_rfl
def r37_0 := nv 2 Tryz.f37
def r37_1 := nv 6 Tryz.f37
def r37_2 := nv 28 Tryz.f37
def b37_0 := nv 116 Tryz.f37
def r37_3 := nv 232 Tryz.f37
def r37_4 := nv 3736 Tryz.f37
def r37_5 := nv 7474 Tryz.f37
def r37_6 := nv 7475 Tryz.f37
def r37_7 := nv 935 Tryz.f37
def r37_8 := nv 30 Tryz.f37
theorem ent37 : Ent T 37 42 (.seq (r37_0) (.seq (r37_1) (.seq (.seq (r37_2) (.block 0 (.loop b37_0))) (.seq (r37_8) (.ret))))) := entI T (F := Tryz.f37) (by kernel_rfl) (by kernel_rfl) (by kernel_rfl)
@[go_sem ↓] theorem run37 : RR r37_0 [oo 3 (.box 58 (.tmp 0)), oo 6 (oi 0)] ∧ RR r37_1 [oo 11 (oF 58 3 0), oo 12 (oL 31 11), oo 7 (.alloc 31), ow 31 7 12, oo 8 (oi 0)] ∧ RR r37_2 [oo 13 (oM 2), oo 14 (oN 13 39), oo 15 (.move (.const (.int .i64 0)))] ∧ RR r37_3 [oo 16 (oB .lss 3 15 14)] ∧ RR r37_4 [oo 17 (oI 39 13 15), oo 18 (oL 3 17), oo 10 (oG 18)] ∧ RD r37_5 37 [oo 19 (oM 8), oo 20 (oL 31 7), oo 21 (oM 1), oo 22 (oM 10), oo 23 (oI 37 21 22), oo 24 (oF 50 23 1), oo 25 (oL 31 24), oo 26 (.build 164 #[(0, .tmp 20), (1, .tmp 25)]), oo 27 (o1 76 26 164), oo 28 (oB .add 3 19 27), oo 8 (oG 28)] [(0, 1), (0, 2), (1, 2), (0, 3), (1, 3), (2, 3), (0, 4), (1, 4), (0, 5), (1, 5), (0, 6), (1, 6), (0, 7), (0, 8)] ∧ RR r37_6 [oo 29 (oM 1), oo 30 (oM 10), oo 31 (oI 37 29 30), oo 32 (oF 50 31 1), oo 33 (oL 31 32), ow 31 7 33] ∧ RR r37_7 [oo 34 (oC .add 3 15 1), oo 15 (oM 34)] ∧ RI b37_0 (.seq (r37_3) (.seq (.cond (.tmp 16) (.skip) (.exit 0)) (.seq (.block 1 (.seq (r37_4) (.seq (r37_5) (r37_6)))) (r37_7)))) ∧ KeepS T 37 b37_0 [1, 3, 7, 8, 13, 14, 15] ∧ RR r37_8 [oo 35 (oM 8), oo 36 (oL 31 7), oo 37 (oF 58 3 0), oo 38 (oL 31 37), oo 39 (.build 164 #[(0, .tmp 36), (1, .tmp 38)]), oo 40 (o1 76 39 164), oo 41 (oB .add 3 35 40), oo 6 (oG 41)] ∧ FinF T 37 [.tmp 6] false := by refine ⟨runR T ?_, runR T ?_, runR T ?_, runR T ?_, runR T ?_, runD T (id := 5) ?_ ?_, runR T ?_, runR T ?_, runIc T ?_, keepS T ?_, runR T ?_, finI T (F := Tryz.f37) ?_ ?_ ?_⟩ <;> kernel_rfl
def r54_0 := nv 2 Tryz.f54
def r54_1 := nv 12 Tryz.f54
def b54_0 := nv 52 Tryz.f54
def r54_2 := nv 104 Tryz.f54
def r54_3 := nv 1688 Tryz.f54
def r54_4 := nv 3378 Tryz.f54
def r54_5 := nv 13516 Tryz.f54
def r54_6 := nv 423 Tryz.f54
def r54_7 := nv 14 Tryz.f54
theorem ent54 : Ent T 54 15 (.seq (r54_0) (.seq (.seq (r54_1) (.block 0 (.loop b54_0))) (.seq (r54_7) (.ret)))) := entI T (F := Tryz.f54) (by kernel_rfl) (by kernel_rfl) (by kernel_rfl)
@[go_sem ↓] theorem run54 : RR r54_0 [oo 2 (oi 0)] ∧ RR r54_1 [oo 5 (oM 0), oo 6 (oN 5 114), oo 7 (.move (.const (.int .i64 0)))] ∧ RR r54_2 [oo 8 (oB .lss 3 7 6)] ∧ RR r54_3 [oo 9 (oI 114 5 7), oo 10 (oL 41 9), oo 4 (oG 10)] ∧ RR r54_4 [oo 11 (oM 4), oo 12 (oC .neq 41 11 0)] ∧ RR r54_5 [oo 13 (oM 4), oo 2 (oG 13)] ∧ RR r54_6 [oo 14 (oC .add 3 7 1), oo 7 (oM 14)] ∧ RI b54_0 (.seq (r54_2) (.seq (.cond (.tmp 8) (.skip) (.exit 0)) (.seq (.block 1 (.seq (r54_3) (.seq (r54_4) (.cond (.tmp 12) (.seq (r54_5) (.ret)) (.skip))))) (r54_6)))) ∧ KeepS T 54 b54_0 [5, 6, 7] ∧ RR r54_7 [oo 2 (oi 0)] ∧ FinF T 54 [.tmp 2] false := by refine ⟨runR T ?_, runR T ?_, runR T ?_, runR T ?_, runR T ?_, runR T ?_, runR T ?_, runIc T ?_, keepS T ?_, runR T ?_, finI T (F := Tryz.f54) ?_ ?_ ?_⟩ <;> kernel_rfl
@[go_sem] theorem fr58 : Fct T 58 false none false ∧ Res1 T 58 41 := by refine ⟨⟨?_, ?_, ?_⟩, res1 T (F := Tryz.f58) ?_ ?_⟩ <;> kernel_rfl
@[go_sem] theorem fr67 : Fct T 67 false none false ∧ Res1 T 67 41 := by refine ⟨⟨?_, ?_, ?_⟩, res1 T (F := Tryz.f67) ?_ ?_⟩ <;> kernel_rfl
@[go_sem] theorem fr102 : Fct T 102 false none false ∧ Res1 T 102 41 := by refine ⟨⟨?_, ?_, ?_⟩, res1 T (F := Tryz.f102) ?_ ?_⟩ <;> kernel_rfl
def r55_0 := nv 2 Tryz.f55
def r55_1 := nv 6 Tryz.f55
theorem ent55 : Ent T 55 14 (.seq (r55_0) (.seq (r55_1) (.ret))) := entI T (F := Tryz.f55) (by kernel_rfl) (by kernel_rfl) (by kernel_rfl)
@[go_sem ↓] theorem run55 : RR r55_0 [oo 1 (.box 58 (.tmp 0)), oo 2 (oi 0)] ∧ RD r55_1 55 [oo 3 (oF 58 1 0), oo 4 (oL 31 3), oo 5 (o1 102 4 31), oo 6 (oF 58 1 1), oo 7 (oL 3 6), oo 8 (.call ⟨.value (.func 67), #[.tmp 7, .const (.int .i64 0), .const (.int .i64 10000)], #[3, 3, 3]⟩), oo 9 (oF 58 1 2), oo 10 (oL 3 9), oo 11 (o1 58 10 3), oo 12 (.buildSlice 114 3 #[(0, .tmp 5), (1, .tmp 8), (2, .tmp 11)]), oo 13 (o1 54 12 114), oo 2 (oG 13)] [(0, 3), (1, 3), (2, 3), (0, 4), (1, 4), (2, 4), (0, 6), (1, 6), (2, 6), (3, 6), (4, 6), (5, 6), (0, 7), (1, 7), (2, 7), (3, 7), (4, 7), (5, 7)] ∧ FinF T 55 [.tmp 2] false := by refine ⟨runR T ?_, runD T (id := 1) ?_ ?_, finI T (F := Tryz.f55) ?_ ?_ ?_⟩ <;> kernel_rfl
@[go_sem] theorem fr103 : Fct T 103 false none false ∧ Res1 T 103 4 := by refine ⟨⟨?_, ?_, ?_⟩, res1 T (F := Tryz.f103) ?_ ?_⟩ <;> kernel_rfl
def r56_0 := nv 2 Tryz.f56
def r56_1 := nv 12 Tryz.f56
def r56_2 := nv 52 Tryz.f56
def r56_3 := nv 14 Tryz.f56
def r56_4 := nv 60 Tryz.f56
def b56_0 := nv 244 Tryz.f56
def r56_5 := nv 488 Tryz.f56
def r56_6 := nv 7832 Tryz.f56
def r56_7 := nv 31332 Tryz.f56
def r56_8 := nv 62666 Tryz.f56
def r56_9 := nv 250668 Tryz.f56
def r56_10 := nv 15667 Tryz.f56
def r56_11 := nv 1959 Tryz.f56
def r56_12 := nv 62 Tryz.f56
theorem ent56 : Ent T 56 45 (.seq (r56_0) (.seq (.seq (r56_1) (.cond (.tmp 9) (.seq (r56_2) (.ret)) (.skip))) (.seq (r56_3) (.seq (.seq (r56_4) (.block 0 (.loop b56_0))) (.seq (r56_12) (.ret)))))) := entI T (F := Tryz.f56) (by kernel_rfl) (by kernel_rfl) (by kernel_rfl)
@[go_sem ↓] theorem run56 : RR r56_0 [oo 2 (oi 0)] ∧ RR r56_1 [oo 7 (oM 0), oo 8 (oN 7 37), oo 9 (oC .gtr 3 8 8)] ∧ RR r56_2 [oo 2 (oi 5)] ∧ RR r56_3 [oo 10 (.makeMap 188 none), oo 3 (oG 10)] ∧ RR r56_4 [oo 11 (oM 0), oo 12 (oN 11 37), oo 13 (.move (.const (.int .i64 0)))] ∧ RR r56_5 [oo 14 (oB .lss 3 13 12)] ∧ RR r56_6 [oo 15 (oI 37 11 13), oo 16 (oL 50 15), oo 5 (.alloc 50), ow 50 5 16] ∧ RD r56_7 56 [oo 17 (oF 50 5 0), oo 18 (oL 9 17), oo 19 (o1 103 18 9), oo 20 (.unOp .not 4 (.tmp 19)), oo 21 (.call ⟨.value (.func 63), #[.tmp 20, .const (.int .i64 8)], #[4, 41]⟩), oo 22 (oM 3), oo 23 (oF 50 5 0), oo 24 (oL 9 23), oo 25 (.lookup 188 (.tmp 22) (.tmp 24) false), oo 26 (.call ⟨.value (.func 63), #[.tmp 25, .const (.int .i64 9)], #[4, 41]⟩), oo 27 (oF 50 5 1), oo 28 (oL 31 27), oo 29 (o1 102 28 31), oo 30 (oF 50 5 2), oo 31 (oL 3 30), oo 32 (.call ⟨.value (.func 67), #[.tmp 31, .const (.int .i64 0), .const (.int .i64 1000000)], #[3, 3, 3]⟩), oo 33 (oF 50 5 3), oo 34 (oL 3 33), oo 35 (.call ⟨.value (.func 67), #[.tmp 34, .const (.int .i64 0), .const (.int .i64 10000)], #[3, 3, 3]⟩), oo 36 (.buildSlice 114 5 #[(0, .tmp 21), (1, .tmp 26), (2, .tmp 29), (3, .tmp 32), (4, .tmp 35)]), oo 37 (o1 54 36 114), oo 6 (oG 37)] [(0, 5), (1, 5), (2, 5), (3, 5), (4, 5), (0, 6), (1, 6), (2, 6), (3, 6), (4, 6), (5, 6), (0, 7), (1, 7), (2, 7), (3, 7), (4, 7), (5, 7), (0, 8), (1, 8), (2, 8), (3, 8), (4, 8), (0, 10), (1, 10), (2, 10), (3, 10), (4, 10), (5, 10), (6, 10), (7, 10), (8, 10), (9, 10), (0, 11), (1, 11), (2, 11), (3, 11), (4, 11), (5, 11), (6, 11), (7, 11), (8, 11), (9, 11), (0, 13), (1, 13), (2, 13), (3, 13), (4, 13), (5, 13), (6, 13), (7, 13), (8, 13), (9, 13), (10, 13), (11, 13), (12, 13), (0, 14), (1, 14), (2, 14), (3, 14), (4, 14), (5, 14), (6, 14), (7, 14), (8, 14), (9, 14), (10, 14), (11, 14), (12, 14), (0, 16), (1, 16), (2, 16), (3, 16), (4, 16), (5, 16), (6, 16), (7, 16), (8, 16), (9, 16), (10, 16), (11, 16), (12, 16), (13, 16), (14, 16), (15, 16), (0, 17), (1, 17), (2, 17), (3, 17), (4, 17), (5, 17), (6, 17), (7, 17), (8, 17), (9, 17), (10, 17), (11, 17), (12, 17), (13, 17), (14, 17), (15, 17)] ∧ RR r56_8 [oo 38 (oM 6), oo 39 (oC .neq 41 38 0)] ∧ RR r56_9 [oo 40 (oM 6), oo 2 (oG 40)] ∧ RR r56_10 [oo 41 (oM 3), oo 42 (oF 50 5 0), oo 43 (oL 9 42), ⟨none, .mapUpdate 188 (.tmp 41) (.tmp 43) (.const (.bool true)), none⟩] ∧ RR r56_11 [oo 44 (oC .add 3 13 1), oo 13 (oM 44)] ∧ RI b56_0 (.seq (r56_5) (.seq (.cond (.tmp 14) (.skip) (.exit 0)) (.seq (.block 1 (.seq (r56_6) (.seq (.seq (r56_7) (.seq (r56_8) (.cond (.tmp 39) (.seq (r56_9) (.ret)) (.skip)))) (r56_10)))) (r56_11)))) ∧ KeepS T 56 b56_0 [3, 11, 12, 13] ∧ RR r56_12 [oo 2 (oi 0)] ∧ FinF T 56 [.tmp 2] false := by refine ⟨runR T ?_, runR T ?_, runR T ?_, runR T ?_, runR T ?_, runR T ?_, runR T ?_, runD T (id := 7) ?_ ?_, runR T ?_, runR T ?_, runR T ?_, runR T ?_, runIc T ?_, keepS T ?_, runR T ?_, finI T (F := Tryz.f56) ?_ ?_ ?_⟩ <;> kernel_rfl
def r58_0 := nv 2 Tryz.f58
def r58_1 := nv 6 Tryz.f58
theorem ent58 : Ent T 58 5 (.seq (r58_0) (.seq (r58_1) (.ret))) := entI T (F := Tryz.f58) (by kernel_rfl) (by kernel_rfl) (by kernel_rfl)
@[go_sem ↓] theorem run58 : RR r58_0 [oo 2 (oi 0)] ∧ RR r58_1 [oo 3 (oM 0), oo 4 (.call ⟨.value (.func 67), #[.tmp 3, .const (.int .i64 0), .const (.int .i64 1000)], #[3, 3, 3]⟩), oo 2 (oG 4)] ∧ FinF T 58 [.tmp 2] false := by refine ⟨runR T ?_, runR T ?_, finI T (F := Tryz.f58) ?_ ?_ ?_⟩ <;> kernel_rfl
def r63_0 := nv 2 Tryz.f63
def r63_1 := nv 12 Tryz.f63
def r63_2 := nv 52 Tryz.f63
def r63_3 := nv 14 Tryz.f63
theorem ent63 : Ent T 63 7 (.seq (r63_0) (.seq (.seq (r63_1) (.cond (.tmp 5) (.seq (r63_2) (.ret)) (.skip))) (.seq (r63_3) (.ret)))) := entI T (F := Tryz.f63) (by kernel_rfl) (by kernel_rfl) (by kernel_rfl)
@[go_sem ↓] theorem run63 : RR r63_0 [oo 4 (oi 0)] ∧ RR r63_1 [oo 5 (oM 0)] ∧ RR r63_2 [oo 6 (oM 1), oo 4 (oG 6)] ∧ RR r63_3 [oo 4 (oi 0)] ∧ FinF T 63 [.tmp 4] false := by refine ⟨runR T ?_, runR T ?_, runR T ?_, runR T ?_, finI T (F := Tryz.f63) ?_ ?_ ?_⟩ <;> kernel_rfl
def r67_0 := nv 2 Tryz.f67
def r67_1 := nv 6 Tryz.f67
theorem ent67 : Ent T 67 16 (.seq (r67_0) (.seq (r67_1) (.ret))) := entI T (F := Tryz.f67) (by kernel_rfl) (by kernel_rfl) (by kernel_rfl)
@[go_sem ↓] theorem run67 : RR r67_0 [oo 6 (oi 0)] ∧ RR r67_1 [oo 7 (oM 0), oo 8 (oM 1), oo 9 (oB .lss 3 7 8), oo 10 (oM 9), of 11 (oM 0) 10, of 12 (oM 2) 10, of 13 (oB .gtr 3 11 12) 10, oo 14 (.pick (.tmp 10) (.const (.bool true)) (.tmp 13)), oo 15 (.call ⟨.value (.func 63), #[.tmp 14, .const (.int .i64 3)], #[4, 41]⟩), oo 6 (oG 15)] ∧ FinF T 67 [.tmp 6] false := by refine ⟨runR T ?_, runR T ?_, finI T (F := Tryz.f67) ?_ ?_ ?_⟩ <;> kernel_rfl
@[go_sem] theorem fr108 : Fct T 108 false none false ∧ Res1 T 108 3 := by refine ⟨⟨?_, ?_, ?_⟩, res1 T (F := Tryz.f108) ?_ ?_⟩ <;> kernel_rfl
def r72_0 := nv 2 Tryz.f72
def r72_1 := nv 6 Tryz.f72
theorem ent72 : Ent T 72 9 (.seq (r72_0) (.seq (r72_1) (.ret))) := entI T (F := Tryz.f72) (by kernel_rfl) (by kernel_rfl) (by kernel_rfl)
@[go_sem ↓] theorem run72 : RR r72_0 [oo 4 (.assign (.const (.bool false)))] ∧ RR r72_1 [oo 5 (oM 0), oo 6 (oM 1), oo 7 (o2 108 5 6 39 3), oo 8 (oC .geq 3 7 0), oo 4 (oG 8)] ∧ FinF T 72 [.tmp 4] false := by refine ⟨runR T ?_, runR T ?_, finI T (F := Tryz.f72) ?_ ?_ ?_⟩ <;> kernel_rfl
@[go_sem] theorem fr75 : Fct T 75 true none false ∧ Res1 T 75 39 := by refine ⟨⟨?_, ?_, ?_⟩, res1 T (F := Tryz.f75) ?_ ?_⟩ <;> kernel_rfl
@[go_sem] theorem fr109 : Fct T 109 true none false ∧ Res1 T 109 39 := by refine ⟨⟨?_, ?_, ?_⟩, res1 T (F := Tryz.f109) ?_ ?_⟩ <;> kernel_rfl
def r73_0 := nv 2 Tryz.f73
def r73_1 := nv 12 Tryz.f73
def r73_2 := nv 52 Tryz.f73
def r73_3 := nv 28 Tryz.f73
def b73_0 := nv 116 Tryz.f73
def r73_4 := nv 232 Tryz.f73
def r73_5 := nv 3736 Tryz.f73
def r73_6 := nv 7474 Tryz.f73
def r73_7 := nv 14950 Tryz.f73
def r73_8 := nv 59804 Tryz.f73
def r73_9 := nv 935 Tryz.f73
def r73_10 := nv 30 Tryz.f73
theorem ent73 : Ent T 73 39 (.seq (r73_0) (.seq (.seq (r73_1) (.cond (.tmp 12) (.seq (r73_2) (.ret)) (.skip))) (.seq (.seq (r73_3) (.block 0 (.loop b73_0))) (.seq (r73_10) (.ret))))) := entI T (F := Tryz.f73) (by kernel_rfl) (by kernel_rfl) (by kernel_rfl)
@[go_sem ↓] theorem run73 : RR r73_0 [oo 6 (.assign (.const (.bool false)))] ∧ RR r73_1 [oo 10 (oM 1), oo 11 (oN 10 39), oo 12 (oC .eql 3 11 0)] ∧ RR r73_2 [oo 13 (oM 2), oo 14 (oM 0), oo 15 (.call ⟨.value (.tmp 13), #[.tmp 14], #[39]⟩), oo 6 (oG 15)] ∧ RR r73_3 [oo 16 (oM 1), oo 17 (oN 16 39), oo 18 (.move (.const (.int .i64 0)))] ∧ RR r73_4 [oo 19 (oB .lss 3 18 17)] ∧ RR r73_5 [oo 20 (oM 18), oo 21 (oI 39 16 18), oo 22 (oL 3 21), oo 7 (oG 20), oo 8 (oG 22)] ∧ RR r73_6 [oo 23 (oM 1), oo 24 (o1 75 23 39), oo 25 (oM 7), oo 26 (oM 7), oo 27 (oC .add 3 26 1), oo 28 (.call ⟨.value (.func 109), #[.tmp 24, .tmp 25, .tmp 27], #[39, 3, 3]⟩), oo 9 (oG 28)] ∧ RR r73_7 [oo 29 (oM 0), oo 30 (o1 75 29 39), oo 31 (oM 8), oo 32 (oS 39 31), oo 33 (oA 30 32 39), oo 34 (oM 9), oo 35 (oM 2), oo 36 (.call ⟨.value (.func 73), #[.tmp 33, .tmp 34, .tmp 35], #[39, 39, 127]⟩), oo 37 (.unOp .not 4 (.tmp 36))] ∧ RR r73_8 [oo 6 (.assign (.const (.bool false)))] ∧ RR r73_9 [oo 38 (oC .add 3 18 1), oo 18 (oM 38)] ∧ RI b73_0 (.seq (r73_4) (.seq (.cond (.tmp 19) (.skip) (.exit 0)) (.seq (.block 1 (.seq (r73_5) (.seq (r73_6) (.seq (r73_7) (.cond (.tmp 37) (.seq (r73_8) (.ret)) (.skip)))))) (r73_9)))) ∧ KeepS T 73 b73_0 [0, 1, 2, 16, 17, 18] ∧ RR r73_10 [oo 6 (.assign (.const (.bool true)))] ∧ FinF T 73 [.tmp 6] true := by refine ⟨runR T ?_, runR T ?_, runR T ?_, runR T ?_, runR T ?_, runR T ?_, runR T ?_, runR T ?_, runR T ?_, runR T ?_, runIc T ?_, keepS T ?_, runR T ?_, finI T (F := Tryz.f73) ?_ ?_ ?_⟩ <;> kernel_rfl
def r74_0 := nv 2 Tryz.f74
def r74_1 := nv 12 Tryz.f74
def r74_2 := nv 26 Tryz.f74
def r74_3 := nv 54 Tryz.f74
def r74_4 := nv 14 Tryz.f74
theorem ent74 : Ent T 74 22 (.seq (r74_0) (.seq (.seq (r74_1) (.seq (r74_2) (.cond (.tmp 18) (r74_3) (.skip)))) (.seq (r74_4) (.ret)))) := entI T (F := Tryz.f74) (by kernel_rfl) (by kernel_rfl) (by kernel_rfl)
@[go_sem ↓] theorem run74 : RR r74_0 [oo 6 (.assign (.const (.bool false)))] ∧ RR r74_1 [oo 8 (oL 58 1), oo 9 (oL 37 2), oo 10 (oM 0), oo 11 (.call ⟨.value (.func 37), #[.tmp 8, .tmp 9, .tmp 10], #[58, 37, 39]⟩), oo 7 (oG 11)] ∧ RR r74_2 [oo 12 (oL 3 3), oo 13 (oC .lss 3 12 0), oo 14 (oM 13), of 15 (oM 7) 14, of 16 (oL 3 3) 14, of 17 (oB .lss 3 15 16) 14, oo 18 (.pick (.tmp 14) (.const (.bool true)) (.tmp 17))] ∧ RR r74_3 [oo 19 (oM 0), oo 20 (o1 75 19 39), oo 21 (oM 7), ow 39 4 20, ow 3 3 21] ∧ RR r74_4 [oo 6 (.assign (.const (.bool true)))] ∧ FinF T 74 [.tmp 6] true := by refine ⟨runR T ?_, runR T ?_, runR T ?_, runR T ?_, runR T ?_, finI T (F := Tryz.f74) ?_ ?_ ?_⟩ <;> kernel_rfl
def r75_0 := nv 2 Tryz.f75
def r75_1 := nv 12 Tryz.f75
def r75_2 := nv 52 Tryz.f75
def r75_3 := nv 14 Tryz.f75
theorem ent75 : Ent T 75 8 (.seq (r75_0) (.seq (.seq (r75_1) (.cond (.tmp 4) (.seq (r75_2) (.ret)) (.skip))) (.seq (r75_3) (.ret)))) := entI T (F := Tryz.f75) (by kernel_rfl) (by kernel_rfl) (by kernel_rfl)
@[go_sem ↓] theorem run75 : RR r75_0 [oo 2 on] ∧ RR r75_1 [oo 3 (oM 0), oo 4 (.binOp .eql 39 (.tmp 3) (.const (.slice none 0 0)) 39)] ∧ RR r75_2 [oo 2 on] ∧ RR r75_3 [oo 5 (.buildSlice 39 0 #[]), oo 6 (oM 0), oo 7 (oA 5 6 39), oo 2 (oG 7)] ∧ FinF T 75 [.tmp 2] true := by refine ⟨runR T ?_, runR T ?_, runR T ?_, runR T ?_, finI T (F := Tryz.f75) ?_ ?_ ?_⟩ <;> kernel_rfl
def r76_0 := nv 2 Tryz.f76
def r76_1 := nv 12 Tryz.f76
def r76_2 := nv 52 Tryz.f76
def r76_3 := nv 14 Tryz.f76
def r76_4 := nv 30 Tryz.f76
theorem ent76 : Ent T 76 31 (.seq (r76_0) (.seq (.seq (r76_1) (.cond (.tmp 7) (.seq (r76_2) (.ret)) (.skip))) (.seq (r76_3) (.seq (r76_4) (.ret))))) := entI T (F := Tryz.f76) (by kernel_rfl) (by kernel_rfl) (by kernel_rfl)
@[go_sem ↓] theorem run76 : RR r76_0 [oo 1 (.box 164 (.tmp 0)), oo 2 (oi 0)] ∧ RR r76_1 [oo 5 (oL 164 1), oo 6 (.build 164 #[]), oo 7 (oB .eql 164 5 6)] ∧ RR r76_2 [oo 2 (oi 0)] ∧ RD r76_3 76 [oo 8 (.indexAddr 164 (.tmp 1) (.const (.int .i64 0))), oo 9 (oF 31 8 0), oo 10 (oL 3 9), oo 11 (.indexAddr 164 (.tmp 1) (.const (.int .i64 1))), oo 12 (oF 31 11 0), oo 13 (oL 3 12), oo 14 (oB .sub 3 10 13), oo 15 (.indexAddr 164 (.tmp 1) (.const (.int .i64 0))), oo 16 (oF 31 15 1), oo 17 (oL 3 16), oo 18 (.indexAddr 164 (.tmp 1) (.const (.int .i64 1))), oo 19 (oF 31 18 1), oo 20 (oL 3 19), oo 21 (oB .sub 3 17 20), oo 3 (oG 14), oo 4 (oG 21)] [(0, 3), (1, 3), (2, 3), (0, 4), (1, 4), (2, 4), (0, 5), (1, 5), (2, 5), (0, 7), (1, 7), (2, 7), (3, 7), (4, 7), (5, 7), (6, 7), (0, 8), (1, 8), (2, 8), (3, 8), (4, 8), (5, 8), (6, 8), (0, 9), (1, 9), (2, 9), (3, 9), (4, 9), (5, 9), (6, 9), (0, 10), (1, 10), (2, 10), (3, 10), (4, 10), (5, 10), (6, 10), (7, 10), (8, 10), (9, 10), (0, 11), (1, 11), (2, 11), (3, 11), (4, 11), (5, 11), (6, 11), (7, 11), (8, 11), (9, 11), (0, 12), (1, 12), (2, 12), (3, 12), (4, 12), (5, 12), (6, 12), (7, 12), (8, 12), (9, 12), (0, 13), (1, 13), (2, 13), (3, 13), (4, 13), (5, 13), (6, 13), (7, 14), (8, 14), (9, 14), (10, 14), (11, 14), (12, 14), (13, 14)] ∧ RR r76_4 [oo 22 (oM 3), oo 23 (oM 3), oo 24 (.unOp .neg 3 (.tmp 23)), oo 25 (.call ⟨.builtin .max, #[.tmp 22, .tmp 24], #[3, 3]⟩), oo 26 (oM 4), oo 27 (oM 4), oo 28 (.unOp .neg 3 (.tmp 27)), oo 29 (.call ⟨.builtin .max, #[.tmp 26, .tmp 28], #[3, 3]⟩), oo 30 (oB .add 3 25 29), oo 2 (oG 30)] ∧ FinF T 76 [.tmp 2] false := by refine ⟨runR T ?_, runR T ?_, runR T ?_, runD T (id := 3) ?_ ?_, runR T ?_, finI T (F := Tryz.f76) ?_ ?_ ?_⟩ <;> kernel_rfl
def r102_0 := nv 2 Tryz.f102
def r102_1 := nv 6 Tryz.f102
theorem ent102 : Ent T 102 11 (.seq (r102_0) (.seq (r102_1) (.ret))) := entI T (F := Tryz.f102) (by kernel_rfl) (by kernel_rfl) (by kernel_rfl)
@[go_sem ↓] theorem run102 : RR r102_0 [oo 1 (.box 31 (.tmp 0)), oo 2 (oi 0)] ∧ RD r102_1 102 [oo 3 (oF 31 1 0), oo 4 (oL 3 3), oo 5 (.call ⟨.value (.func 67), #[.tmp 4, .const (.int .i64 (-1000)), .const (.int .i64 1000)], #[3, 3, 3]⟩), oo 6 (oF 31 1 1), oo 7 (oL 3 6), oo 8 (.call ⟨.value (.func 67), #[.tmp 7, .const (.int .i64 (-1000)), .const (.int .i64 1000)], #[3, 3, 3]⟩), oo 9 (.buildSlice 114 2 #[(0, .tmp 5), (1, .tmp 8)]), oo 10 (o1 54 9 114), oo 2 (oG 10)] [(0, 3), (1, 3), (2, 3), (0, 4), (1, 4), (2, 4)] ∧ FinF T 102 [.tmp 2] false := by refine ⟨runR T ?_, runD T (id := 1) ?_ ?_, finI T (F := Tryz.f102) ?_ ?_ ?_⟩ <;> kernel_rfl
def r108_0 := nv 2 Tryz.f108
def r108_1 := nv 12 Tryz.f108
def b108_0 := nv 52 Tryz.f108
def r108_2 := nv 104 Tryz.f108
def r108_3 := nv 1688 Tryz.f108
def r108_4 := nv 3378 Tryz.f108
def r108_5 := nv 13516 Tryz.f108
def r108_6 := nv 423 Tryz.f108
def r108_7 := nv 14 Tryz.f108
theorem ent108 : Ent T 108 19 (.seq (r108_0) (.seq (.seq (r108_1) (.block 0 (.loop b108_0))) (.seq (r108_7) (.ret)))) := entI T (F := Tryz.f108) (by kernel_rfl) (by kernel_rfl) (by kernel_rfl)
@[go_sem ↓] theorem run108 : RR r108_0 [oo 4 (oi 0)] ∧ RR r108_1 [oo 6 (oM 0), oo 7 (oN 6 39), oo 8 (.move (.const (.int .i64 0)))] ∧ RR r108_2 [oo 9 (oB .lss 3 8 7)] ∧ RR r108_3 [oo 10 (oM 8), oo 5 (oG 10)] ∧ RR r108_4 [oo 11 (oM 1), oo 12 (oM 0), oo 13 (oM 5), oo 14 (oI 39 12 13), oo 15 (oL 3 14), oo 16 (oB .eql 3 11 15)] ∧ RR r108_5 [oo 17 (oM 5), oo 4 (oG 17)] ∧ RR r108_6 [oo 18 (oC .add 3 8 1), oo 8 (oM 18)] ∧ RI b108_0 (.seq (r108_2) (.seq (.cond (.tmp 9) (.skip) (.exit 0)) (.seq (.block 1 (.seq (r108_3) (.seq (r108_4) (.cond (.tmp 16) (.seq (r108_5) (.ret)) (.skip))))) (r108_6)))) ∧ KeepS T 108 b108_0 [0, 1, 7, 8] ∧ RR r108_7 [oo 4 (oi (-1))] ∧ FinF T 108 [.tmp 4] false := by refine ⟨runR T ?_, runR T ?_, runR T ?_, runR T ?_, runR T ?_, runR T ?_, runR T ?_, runIc T ?_, keepS T ?_, runR T ?_, finI T (F := Tryz.f108) ?_ ?_ ?_⟩ <;> kernel_rfl
def r109_0 := nv 2 Tryz.f109
def r109_1 := nv 6 Tryz.f109
def r109_2 := nv 28 Tryz.f109
def r109_3 := nv 116 Tryz.f109
def r109_4 := nv 30 Tryz.f109
def r109_5 := nv 62 Tryz.f109
def r109_6 := nv 126 Tryz.f109
def r109_7 := nv 254 Tryz.f109
theorem ent109 : Ent T 109 33 (.seq (r109_0) (.seq (r109_1) (.seq (.seq (r109_2) (.cond (.tmp 16) (.seq (r109_3) (.ret)) (.skip))) (.seq (r109_4) (.seq (r109_5) (.seq (r109_6) (.seq (r109_7) (.ret)))))))) := entI T (F := Tryz.f109) (by kernel_rfl) (by kernel_rfl) (by kernel_rfl)
@[go_sem ↓] theorem run109 : RR r109_0 [oo 6 on] ∧ RR r109_1 [oo 8 (oM 0), oo 9 (oM 1), oo 10 (oM 2), oo 11 (oM 0), oo 12 (oN 11 39), oo 13 (.slice 39 (.tmp 8) (some (.tmp 9)) (some (.tmp 10)) (some (.tmp 12)))] ∧ RR r109_2 [oo 14 (oM 1), oo 15 (oM 2), oo 16 (oB .eql 3 14 15)] ∧ RR r109_3 [oo 17 (oM 0), oo 6 (oG 17)] ∧ RR r109_4 [oo 18 (oM 0), oo 19 (oN 18 39), oo 7 (oG 19)] ∧ RD r109_5 109 [oo 20 (oM 0), oo 21 (oM 1), oo 22 (.slice 39 (.tmp 20) none (some (.tmp 21)) none), oo 23 (oM 0), oo 24 (oM 2), oo 25 (.slice 39 (.tmp 23) (some (.tmp 24)) none none), oo 26 (oA 22 25 39), oo 0 (oG 26)] [(0, 1), (0, 3), (1, 3), (2, 3), (0, 4), (1, 4), (2, 4), (3, 4), (0, 5), (1, 5), (2, 5)] ∧ RR r109_6 [oo 27 (oM 0), oo 28 (oM 0), oo 29 (oN 28 39), oo 30 (oM 7), oo 31 (.slice 39 (.tmp 27) (some (.tmp 29)) (some (.tmp 30)) none), ⟨none, .call ⟨.builtin .clear, #[.tmp 31], #[39]⟩, none⟩] ∧ RR r109_7 [oo 32 (oM 0), oo 6 (oG 32)] ∧ FinF T 109 [.tmp 6] true := by refine ⟨runR T ?_, runR T ?_, runR T ?_, runR T ?_, runR T ?_, runD T (id := 5) ?_ ?_, runR T ?_, runR T ?_, finI T (F := Tryz.f109) ?_ ?_ ?_⟩ <;> kernel_rfl
@[go_sem] theorem fr3 : Fct T 3 false none false ∧ Res1 T 3 4 := by refine ⟨⟨?_, ?_, ?_⟩, res1 T (F := Tryz.f3) ?_ ?_⟩ <;> kernel_rfl
@[go_sem] theorem fr5 : Fct T 5 false none false ∧ Res1 T 5 4 := by refine ⟨⟨?_, ?_, ?_⟩, res1 T (F := Tryz.f5) ?_ ?_⟩ <;> kernel_rfl
def r3_0 := nv 2 Tryz.f3
def r3_1 := nv 12 Tryz.f3
def r3_2 := nv 52 Tryz.f3
def r3_3 := nv 14 Tryz.f3
def r3_4 := nv 30 Tryz.f3
def r3_5 := nv 62 Tryz.f3
def r3_6 := nv 126 Tryz.f3
def r3_7 := nv 254 Tryz.f3
def r3_8 := nv 510 Tryz.f3
def r3_9 := nv 1022 Tryz.f3
def r3_10 := nv 4092 Tryz.f3
def b3_0 := nv 16372 Tryz.f3
def r3_11 := nv 32744 Tryz.f3
def r3_12 := nv 523928 Tryz.f3
def r3_13 := nv 1047858 Tryz.f3
def r3_14 := nv 4191436 Tryz.f3
def b3_1 := nv 16765748 Tryz.f3
def r3_15 := nv 33531496 Tryz.f3
def r3_16 := nv 536503960 Tryz.f3
def r3_17 := nv 1073007922 Tryz.f3
def r3_18 := nv 4292031692 Tryz.f3
def r3_19 := nv 134125991 Tryz.f3
def r3_20 := nv 4191438 Tryz.f3
def r3_21 := nv 8382878 Tryz.f3
def r3_22 := nv 33531516 Tryz.f3
def r3_23 := nv 134126068 Tryz.f3
def r3_24 := nv 33531518 Tryz.f3
def r3_25 := nv 67063038 Tryz.f3
def r3_26 := nv 134126078 Tryz.f3
def r3_27 := nv 268252158 Tryz.f3
def r3_28 := nv 536504318 Tryz.f3
def r3_29 := nv 1073008638 Tryz.f3
def r3_30 := nv 1073008639 Tryz.f3
def r3_31 := nv 130983 Tryz.f3
def r3_32 := nv 4094 Tryz.f3
def r3_33 := nv 16380 Tryz.f3
def r3_34 := nv 65524 Tryz.f3
def r3_35 := nv 32764 Tryz.f3
def b3_2 := nv 131060 Tryz.f3
def r3_36 := nv 262120 Tryz.f3
def r3_37 := nv 4193944 Tryz.f3
def r3_38 := nv 8387890 Tryz.f3
def r3_39 := nv 33551564 Tryz.f3
def r3_40 := nv 1048487 Tryz.f3
def r3_41 := nv 32766 Tryz.f3
def r3_42 := nv 131068 Tryz.f3
def r3_43 := nv 524276 Tryz.f3
def r3_44 := nv 262140 Tryz.f3
def b3_3 := nv 1048564 Tryz.f3
def r3_45 := nv 2097128 Tryz.f3
def r3_46 := nv 33554072 Tryz.f3
def r3_47 := nv 67108146 Tryz.f3
def r3_48 := nv 134216294 Tryz.f3
def r3_49 := nv 536865180 Tryz.f3
def r3_50 := nv 8388519 Tryz.f3
def r3_51 := nv 262142 Tryz.f3
def r3_52 := nv 524286 Tryz.f3
def r3_53 := nv 2097148 Tryz.f3
def b3_4 := nv 8388596 Tryz.f3
def r3_54 := nv 16777192 Tryz.f3
def r3_55 := nv 268435096 Tryz.f3
def r3_56 := nv 268435097 Tryz.f3
def r3_57 := nv 67108775 Tryz.f3
def r3_58 := nv 2097150 Tryz.f3
def r3_59 := nv 4194302 Tryz.f3
def r3_60 := nv 8388606 Tryz.f3
def r3_61 := nv 16777214 Tryz.f3
def r3_62 := nv 67108860 Tryz.f3
def r3_63 := nv 268435444 Tryz.f3
def r3_64 := nv 134217724 Tryz.f3
def b3_5 := nv 536870900 Tryz.f3
def r3_65 := nv 1073741800 Tryz.f3
def r3_66 := nv 17179868824 Tryz.f3
def r3_67 := nv 34359737650 Tryz.f3
def r3_68 := nv 137438950604 Tryz.f3
def r3_69 := nv 4294967207 Tryz.f3
def r3_70 := nv 134217726 Tryz.f3
theorem ent3 : Ent T 3 393 (.seq (r3_0) (.seq (.seq (r3_1) (.cond (.tmp 59) (.seq (r3_2) (.ret)) (.skip))) (.seq (r3_3) (.seq (r3_4) (.seq (r3_5) (.seq (r3_6) (.seq (r3_7) (.seq (r3_8) (.seq (r3_9) (.seq (.seq (r3_10) (.block 0 (.loop b3_0))) (.seq (r3_32) (.seq (.seq (r3_33) (.cond (.tmp 226) (.seq (r3_34) (.ret)) (.skip))) (.seq (.seq (r3_35) (.block 4 (.loop b3_2))) (.seq (r3_41) (.seq (.seq (r3_42) (.cond (.tmp 260) (.seq (r3_43) (.ret)) (.skip))) (.seq (.seq (r3_44) (.block 6 (.loop b3_3))) (.seq (r3_51) (.seq (r3_52) (.seq (.seq (r3_53) (.block 8 (.loop b3_4))) (.seq (r3_58) (.seq (r3_59) (.seq (r3_60) (.seq (r3_61) (.seq (.seq (r3_62) (.cond (.tmp 380) (.seq (r3_63) (.ret)) (.skip))) (.seq (.seq (r3_64) (.block 10 (.loop b3_5))) (.seq (r3_70) (.ret))))))))))))))))))))))))))) := entI T (F := Tryz.f3) (by kernel_rfl) (by kernel_rfl) (by kernel_rfl)
@[go_sem ↓] theorem run3 : RR r3_0 [oo 1 (.box 28 (.tmp 0)), oo 2 (.assign (.const (.bool false)))] ∧ RR r3_1 [oo 50 (oF 28 1 0), oo 51 (oL 22 50), oo 52 (oN 51 22), oo 53 (oC .lss 3 52 1), oo 54 (oM 53), of 55 (oF 28 1 0) 54, of 56 (oL 22 55) 54, of 57 (oN 56 22) 54, of 58 (oC .gtr 3 57 5) 54, oo 59 (.pick (.tmp 54) (.const (.bool true)) (.tmp 58))] ∧ RR r3_2 [oo 60 (.call ⟨.value (.func 5), #[], #[]⟩), oo 2 (oG 60)] ∧ RR r3_3 [oo 61 (oF 28 1 1), oo 62 (oL 5 61), oo 63 (.convert 5 3 (.tmp 62)), oo 64 (oC .rem 3 63 4), oo 65 (oF 28 1 2), oo 66 (.indexAddr 24 (.tmp 65) (.const (.int .i64 0))), oo 67 (oL 23 66), oo 68 (.convert 23 3 (.tmp 67)), oo 69 (oC .rem 3 68 901), oo 70 (oF 28 1 2), oo 71 (.indexAddr 24 (.tmp 70) (.const (.int .i64 1))), oo 72 (oL 23 71), oo 73 (.convert 23 3 (.tmp 72)), oo 74 (oC .rem 3 73 901), oo 75 (.build 31 #[(0, .tmp 69), (1, .tmp 74)]), oo 76 (.build 33 #[(0, .tmp 64), (1, .tmp 75)]), oo 3 (.alloc 33), ow 33 3 76] ∧ RR r3_4 [oo 4 on, oo 5 on] ∧ RR r3_5 [oo 6 on] ∧ RR r3_6 [oo 7 on] ∧ RR r3_7 [oo 8 on] ∧ RR r3_8 [oo 9 on] ∧ RR r3_9 [oo 10 on, oo 11 on] ∧ RR r3_10 [oo 77 (oF 28 1 0), oo 78 (oL 22 77), oo 79 (oN 78 22), oo 80 (.move (.const (.int .i64 0)))] ∧ RR r3_11 [oo 81 (oB .lss 3 80 79)] ∧ RR r3_12 [oo 82 (oM 80), oo 83 (oI 22 78 80), oo 84 (oL 40 83), oo 13 (.alloc 40), oo 12 (oG 82), ow 40 13 84] ∧ RR r3_13 [oo 85 (.indexAddr 40 (.tmp 13) (.const (.int .i64 0))), oo 86 (oL 5 85), oo 87 (.convert 5 3 (.tmp 86)), oo 88 (oC .rem 3 87 16), oo 89 (.indexAddr 40 (.tmp 13) (.const (.int .i64 1))), oo 90 (oL 5 89), oo 91 (.convert 5 3 (.tmp 90)), oo 92 (oC .rem 3 91 16), oo 93 (.build 31 #[(0, .tmp 88), (1, .tmp 92)]), oo 14 (.alloc 31), ow 31 14 93] ∧ RR r3_14 [oo 94 (oM 4), oo 95 (oN 94 34), oo 96 (.move (.const (.int .i64 0)))] ∧ RR r3_15 [oo 97 (oB .lss 3 96 95)] ∧ RR r3_16 [oo 98 (oI 34 94 96), oo 99 (oL 31 98), oo 16 (.alloc 31), ow 31 16 99] ∧ RR r3_17 [oo 100 (oL 31 16), oo 101 (oL 31 14), oo 102 (oB .eql 31 100 101)] ∧ RR r3_18 [oo 103 (.call ⟨.value (.func 5), #[], #[]⟩), oo 2 (oG 103)] ∧ RR r3_19 [oo 104 (oC .add 3 96 1), oo 96 (oM 104)] ∧ RI b3_1 (.seq (r3_15) (.seq (.cond (.tmp 97) (.skip) (.exit 2)) (.seq (.block 3 (.seq (r3_16) (.seq (r3_17) (.cond (.tmp 102) (.seq (r3_18) (.ret)) (.skip))))) (r3_19)))) ∧ KeepS T 3 b3_1 [1, 3, 4, 5, 6, 7, 8, 9, 10, 11, 12, 14, 78, 79, 80, 94, 95, 96] ∧ RR r3_20 [oo 106 (oL 33 3), oo 107 (oL 31 14), oo 108 (o2 6 106 107 33 31), oo 105 (oM 108), oo 109 (oX 105 0), oo 110 (oX 105 1), oo 17 (.alloc 31), ow 31 17 109, oo 18 (oG 110)] ∧ RR r3_21 [oo 112 (oL 33 3), oo 113 (oL 31 17), oo 114 (o2 7 112 113 33 31), oo 111 (oM 114), oo 115 (oX 111 0), oo 116 (oX 111 1), oo 19 (.alloc 31), ow 31 19 115, oo 20 (oG 116)] ∧ RR r3_22 [oo 117 (oM 18), oo 118 (oC .neq 41 117 0), oo 119 (oM 118), of 120 (oM 20) 119, of 121 (oC .neq 41 120 0) 119, oo 122 (.pick (.tmp 119) (.const (.bool true)) (.tmp 121)), oo 123 (oM 122), of 124 (oL 31 19) 123, of 125 (oL 31 14) 123, of 126 (oB .neq 31 124 125) 123, oo 127 (.pick (.tmp 123) (.const (.bool true)) (.tmp 126)), oo 128 (oM 127), of 129 (oF 31 17 0) 128, of 130 (oL 3 129) 128, of 131 (oC .lss 3 130 (-1000)) 128, oo 132 (.pick (.tmp 128) (.const (.bool true)) (.tmp 131)), oo 133 (oM 132), of 134 (oF 31 17 0) 133, of 135 (oL 3 134) 133, of 136 (oC .gtr 3 135 1000) 133, oo 137 (.pick (.tmp 133) (.const (.bool true)) (.tmp 136)), oo 138 (oM 137), of 139 (oF 31 17 1) 138, of 140 (oL 3 139) 138, of 141 (oC .lss 3 140 (-1000)) 138, oo 142 (.pick (.tmp 138) (.const (.bool true)) (.tmp 141)), oo 143 (oM 142), of 144 (oF 31 17 1) 143, of 145 (oL 3 144) 143, of 146 (oC .gtr 3 145 1000) 143, oo 147 (.pick (.tmp 143) (.const (.bool true)) (.tmp 146))] ∧ RR r3_23 [oo 2 (.assign (.const (.bool false)))] ∧ RD r3_24 3 [oo 148 (oM 4), oo 149 (oL 31 14), oo 150 (oS 34 149), oo 151 (oA 148 150 34), oo 152 (oM 5), oo 153 (oL 31 17), oo 154 (oS 34 153), oo 155 (oA 152 154 34), oo 4 (oG 151), oo 5 (oG 155)] [(0, 1), (0, 2), (0, 4), (1, 4), (2, 4), (3, 4), (0, 5), (1, 5), (2, 5), (3, 5), (4, 5), (0, 6), (1, 6), (2, 6), (3, 6), (4, 6)] ∧ RR r3_25 [oo 156 (oM 12), oo 157 (.binOp .add 3 (.const (.int .i64 48)) (.tmp 156) 3), oo 158 (.convert 3 5 (.tmp 157)), oo 159 (.build 45 #[(0, .const (.int .u8 80)), (1, .const (.int .u8 86)), (2, .tmp 158)]), oo 160 (oL 31 17), oo 161 (.build 47 #[(0, .tmp 159), (1, .tmp 160)]), oo 21 (.alloc 47), ow 47 21 161] ∧ RR r3_26 [oo 162 (oM 6), oo 163 (oL 47 21), oo 164 (oS 35 163), oo 165 (oA 162 164 35), oo 6 (oG 165)] ∧ RD r3_27 3 [oo 166 (oM 8), oo 167 (oM 12), oo 168 (o1 8 167 3), oo 169 (.binOp .add 9 (.const (.string ⟨#[109]⟩)) (.tmp 168) 9), oo 170 (oL 31 17), oo 171 (.build 50 #[(0, .tmp 169), (1, .tmp 170)]), oo 172 (oS 37 171), oo 173 (oA 166 172 37), oo 8 (oG 173)] [(0, 1), (0, 2), (0, 3), (0, 4), (1, 4), (2, 4), (3, 4), (0, 5), (0, 6)] ∧ RR r3_28 [oo 174 (oF 28 1 3), oo 175 (oL 5 174), oo 176 (oM 12), oo 177 (.binOp .shr 5 (.tmp 175) (.tmp 176) 3), oo 178 (.binOp .and 5 (.tmp 177) (.const (.int .u8 1)) 5), oo 179 (.binOp .eql 5 (.tmp 178) (.const (.int .u8 1)) 5)] ∧ RD r3_29 3 [oo 180 (oM 7), oo 181 (oL 31 14), oo 182 (oM 12), oo 183 (.binOp .add 3 (.const (.int .i64 1)) (.tmp 182) 3), oo 184 (.build 52 #[(0, .tmp 181), (1, .tmp 183)]), oo 185 (oS 36 184), oo 186 (oA 180 185 36), oo 187 (oM 9), oo 188 (oF 47 21 0), oo 189 (oL 45 188), oo 190 (oS 38 189), oo 191 (oA 187 190 38), oo 192 (oM 10), oo 193 (oM 12), oo 194 (oS 39 193), oo 195 (oA 192 194 39), oo 7 (oG 186), oo 9 (oG 191), oo 10 (oG 195)] [(0, 1), (0, 2), (1, 2), (0, 3), (1, 3), (0, 4), (0, 5), (0, 7), (1, 7), (2, 7), (3, 7), (4, 7), (5, 7), (6, 7), (0, 8), (1, 8), (2, 8), (3, 8), (4, 8), (5, 8), (6, 8), (7, 8), (0, 9), (1, 9), (2, 9), (3, 9), (4, 9), (5, 9), (6, 9), (7, 9), (0, 10), (1, 10), (2, 10), (3, 10), (4, 10), (5, 10), (6, 10), (7, 10), (0, 12), (1, 12), (2, 12), (3, 12), (4, 12), (5, 12), (6, 12), (7, 12), (8, 12), (9, 12), (10, 12), (11, 12), (0, 13), (1, 13), (2, 13), (3, 13), (4, 13), (5, 13), (6, 13), (7, 13), (8, 13), (9, 13), (10, 13), (11, 13), (12, 13), (0, 14), (1, 14), (2, 14), (3, 14), (4, 14), (5, 14), (6, 14), (7, 14), (8, 14), (9, 14), (10, 14), (11, 14), (12, 14)] ∧ RR r3_30 [oo 196 (oM 11), oo 197 (oM 12), oo 198 (oS 39 197), oo 199 (oA 196 198 39), oo 11 (oG 199)] ∧ RR r3_31 [oo 200 (oC .add 3 80 1), oo 80 (oM 200)] ∧ RI b3_0 (.seq (r3_11) (.seq (.cond (.tmp 81) (.skip) (.exit 0)) (.seq (.block 1 (.seq (r3_12) (.seq (r3_13) (.seq (.seq (r3_14) (.block 2 (.loop b3_1))) (.seq (r3_20) (.seq (r3_21) (.seq (.seq (r3_22) (.cond (.tmp 147) (.seq (r3_23) (.ret)) (.skip))) (.seq (r3_24) (.seq (r3_25) (.seq (r3_26) (.seq (r3_27) (.seq (r3_28) (.cond (.tmp 179) (r3_29) (r3_30)))))))))))))) (r3_31)))) ∧ KeepS T 3 b3_0 [1, 3, 4, 5, 6, 7, 8, 9, 10, 11, 78, 79, 80] ∧ RD r3_32 3 [oo 202 (.buildSlice 36 0 #[]), oo 203 (oM 7), oo 204 (oA 202 203 36), oo 205 (oL 33 3), oo 206 (.buildSlice 35 0 #[]), oo 207 (oM 6), oo 208 (oA 206 207 35), oo 209 (.call ⟨.value (.func 9), #[.tmp 204, .tmp 205, .tmp 208], #[36, 33, 35]⟩), oo 201 (oM 209), oo 210 (oX 201 0), oo 211 (oX 201 1), oo 212 (oX 201 2), oo 22 (oG 210), oo 23 (oG 211), oo 24 (oG 212)] [(0, 1), (0, 3), (1, 3), (2, 3), (0, 4), (1, 4), (2, 4), (3, 4), (0, 5), (1, 5), (2, 5), (3, 5), (4, 5), (3, 6), (9, 10), (9, 11), (10, 11), (10, 12), (11, 12), (11, 13)] ∧ RR r3_33 [oo 213 (oM 24), oo 214 (oC .neq 41 213 0), oo 215 (oM 214), of 216 (oM 23) 215, of 217 (oN 216 39) 215, of 218 (oC .gtr 3 217 0) 215, oo 219 (.pick (.tmp 215) (.const (.bool true)) (.tmp 218)), oo 220 (oM 219), of 221 (oM 22) 220, of 222 (oN 221 38) 220, of 223 (oM 9) 220, of 224 (oN 223 38) 220, of 225 (oB .neq 3 222 224) 220, oo 226 (.pick (.tmp 220) (.const (.bool true)) (.tmp 225))] ∧ RR r3_34 [oo 2 (.assign (.const (.bool false)))] ∧ RR r3_35 [oo 227 (oM 22), oo 228 (oN 227 38), oo 229 (.move (.const (.int .i64 0)))] ∧ RR r3_36 [oo 230 (oB .lss 3 229 228)] ∧ RR r3_37 [oo 231 (oM 229), oo 232 (oI 38 227 229), oo 233 (oL 45 232), oo 26 (.alloc 45), oo 25 (oG 231), ow 45 26 233] ∧ RD r3_38 3 [oo 234 (oL 45 26), oo 235 (oM 9), oo 236 (oM 25), oo 237 (oI 38 235 236), oo 238 (oL 45 237), oo 239 (oB .neq 45 234 238)] [(0, 1), (0, 2), (1, 2), (0, 3), (0, 4)] ∧ RR r3_39 [oo 2 (.assign (.const (.bool false)))] ∧ RR r3_40 [oo 240 (oC .add 3 229 1), oo 229 (oM 240)] ∧ RI b3_2 (.seq (r3_36) (.seq (.cond (.tmp 230) (.skip) (.exit 4)) (.seq (.block 5 (.seq (r3_37) (.seq (r3_38) (.cond (.tmp 239) (.seq (r3_39) (.ret)) (.skip))))) (r3_40)))) ∧ KeepS T 3 b3_2 [1, 4, 5, 8, 9, 10, 11, 227, 228, 229] ∧ RR r3_41 [oo 242 (.buildSlice 34 0 #[]), oo 243 (oM 4), oo 244 (oA 242 243 34), oo 245 (.buildSlice 34 0 #[]), oo 246 (oM 5), oo 247 (oA 245 246 34), oo 248 (o2 10 244 247 34 34), oo 241 (oM 248), oo 249 (oX 241 0), oo 250 (oX 241 1), oo 251 (oX 241 2), oo 27 (.alloc 33), ow 33 27 249, oo 28 (oG 250), oo 29 (oG 251)] ∧ RR r3_42 [oo 252 (oM 29), oo 253 (oC .neq 41 252 0), oo 254 (oM 253), of 255 (oM 28) 254, of 256 (oN 255 39) 254, of 257 (oM 4) 254, of 258 (oN 257 34) 254, of 259 (oB .neq 3 256 258) 254, oo 260 (.pick (.tmp 254) (.const (.bool true)) (.tmp 259))] ∧ RR r3_43 [oo 2 (.assign (.const (.bool false)))] ∧ RR r3_44 [oo 261 (oM 4), oo 262 (oN 261 34), oo 263 (.move (.const (.int .i64 0)))] ∧ RR r3_45 [oo 264 (oB .lss 3 263 262)] ∧ RR r3_46 [oo 265 (oM 263), oo 266 (oI 34 261 263), oo 267 (oL 31 266), oo 31 (.alloc 31), oo 30 (oG 265), ow 31 31 267] ∧ RR r3_47 [oo 269 (oL 33 27), oo 270 (oL 31 31), oo 271 (o2 6 269 270 33 31), oo 268 (oM 271), oo 272 (oX 268 0), oo 273 (oX 268 1), oo 32 (.alloc 31), ow 31 32 272, oo 33 (oG 273)] ∧ RD r3_48 3 [oo 274 (oM 33), oo 275 (oC .neq 41 274 0), oo 276 (oM 275), of 277 (oL 31 32) 276, of 278 (oM 5) 276, of 279 (oM 30) 276, of 280 (oI 34 278 279) 276, of 281 (oL 31 280) 276, of 282 (oB .neq 31 277 281) 276, oo 283 (.pick (.tmp 276) (.const (.bool true)) (.tmp 282))] [(3, 4), (3, 5), (4, 5), (3, 6), (3, 7)] ∧ RR r3_49 [oo 2 (.assign (.const (.bool false)))] ∧ RR r3_50 [oo 284 (oC .add 3 263 1), oo 263 (oM 284)] ∧ RI b3_3 (.seq (r3_45) (.seq (.cond (.tmp 264) (.skip) (.exit 6)) (.seq (.block 7 (.seq (r3_46) (.seq (r3_47) (.seq (r3_48) (.cond (.tmp 283) (.seq (r3_49) (.ret)) (.skip)))))) (r3_50)))) ∧ KeepS T 3 b3_3 [1, 5, 8, 10, 11, 27, 261, 262, 263] ∧ RR r3_51 [oo 285 (oF 28 1 4), oo 286 (.indexAddr 26 (.tmp 285) (.const (.int .i64 0))), oo 287 (oL 25 286), oo 288 (.convert 25 3 (.tmp 287)), oo 289 (oF 28 1 4), oo 290 (.indexAddr 26 (.tmp 289) (.const (.int .i64 1))), oo 291 (oL 25 290), oo 292 (.convert 25 3 (.tmp 291)), oo 293 (.build 31 #[(0, .tmp 288), (1, .tmp 292)]), oo 294 (.build 58 #[(0, .tmp 293)]), oo 34 (.alloc 58), ow 58 34 294] ∧ RR r3_52 [oo 35 on] ∧ RR r3_53 [oo 295 (oM 8), oo 296 (oN 295 37), oo 297 (.move (.const (.int .i64 0)))] ∧ RR r3_54 [oo 298 (oB .lss 3 297 296)] ∧ RR r3_55 [oo 299 (oM 297), oo 36 (oG 299)] ∧ RR r3_56 [oo 300 (oM 35), oo 301 (oM 36), oo 302 (oS 39 301), oo 303 (oA 300 302 39), oo 35 (oG 303)] ∧ RR r3_57 [oo 304 (oC .add 3 297 1), oo 297 (oM 304)] ∧ RI b3_4 (.seq (r3_54) (.seq (.cond (.tmp 298) (.skip) (.exit 8)) (.seq (.block 9 (.seq (r3_55) (r3_56))) (r3_57)))) ∧ KeepS T 3 b3_4 [8, 10, 11, 34, 35, 296, 297] ∧ RD r3_58 3 [oo 306 (oL 58 34), oo 307 (.buildSlice 37 0 #[]), oo 308 (oM 8), oo 309 (oA 307 308 37), oo 310 (.buildSlice 39 0 #[]), oo 311 (oM 35), oo 312 (oA 310 311 39), oo 313 (.call ⟨.value (.func 11), #[.tmp 306, .tmp 309, .tmp 312], #[58, 37, 39]⟩), oo 305 (oM 313), oo 314 (oX 305 0), oo 315 (oX 305 1), oo 316 (oX 305 2), oo 37 (oG 314), oo 38 (oG 315), oo 39 (oG 316)] [(0, 1), (0, 2), (1, 2), (0, 3), (0, 4), (1, 4), (2, 4), (3, 4), (0, 5), (1, 5), (2, 5), (3, 5), (4, 5), (0, 6), (9, 10), (9, 11), (10, 11), (10, 12), (11, 12), (11, 13)] ∧ RD r3_59 3 [oo 318 (oL 58 34), oo 319 (.buildSlice 37 0 #[]), oo 320 (oM 8), oo 321 (oA 319 320 37), oo 322 (.buildSlice 39 0 #[]), oo 323 (oM 35), oo 324 (oA 322 323 39), oo 325 (.call ⟨.value (.func 12), #[.tmp 318, .tmp 321, .tmp 324], #[58, 37, 39]⟩), oo 317 (oM 325), oo 326 (oX 317 0), oo 327 (oX 317 1), oo 40 (oG 326), oo 41 (oG 327)] [(0, 1), (0, 2), (1, 2), (0, 3), (0, 4), (1, 4), (2, 4), (3, 4), (0, 5), (1, 5), (2, 5), (3, 5), (4, 5), (0, 6), (9, 10), (10, 11)] ∧ RD r3_60 3 [oo 329 (oL 58 34), oo 330 (.buildSlice 37 0 #[]), oo 331 (oM 8), oo 332 (oA 330 331 37), oo 333 (oM 10), oo 334 (.call ⟨.value (.func 11), #[.tmp 329, .tmp 332, .tmp 333], #[58, 37, 39]⟩), oo 328 (oM 334), oo 335 (oX 328 0), oo 336 (oX 328 1), oo 337 (oX 328 2), oo 42 (oG 335), oo 43 (oG 336), oo 44 (oG 337)] [(0, 1), (0, 2), (1, 2), (0, 3), (0, 4), (1, 4), (2, 4), (3, 4), (7, 8), (7, 9), (8, 9), (8, 10), (9, 10), (9, 11)] ∧ RD r3_61 3 [oo 339 (oL 58 34), oo 340 (.buildSlice 37 0 #[]), oo 341 (oM 8), oo 342 (oA 340 341 37), oo 343 (oM 11), oo 344 (.call ⟨.value (.func 11), #[.tmp 339, .tmp 342, .tmp 343], #[58, 37, 39]⟩), oo 338 (oM 344), oo 345 (oX 338 0), oo 346 (oX 338 1), oo 347 (oX 338 2), oo 45 (oG 345), oo 46 (oG 346), oo 47 (oG 347)] [(0, 1), (0, 2), (1, 2), (0, 3), (0, 4), (1, 4), (2, 4), (3, 4), (7, 8), (7, 9), (8, 9), (8, 10), (9, 10), (9, 11)] ∧ RR r3_62 [oo 348 (oM 39), oo 349 (oC .neq 41 348 0), oo 350 (oM 349), of 351 (oM 41) 350, of 352 (oC .neq 41 351 0) 350, oo 353 (.pick (.tmp 350) (.const (.bool true)) (.tmp 352)), oo 354 (oM 353), of 355 (oM 44) 354, of 356 (oC .neq 41 355 0) 354, oo 357 (.pick (.tmp 354) (.const (.bool true)) (.tmp 356)), oo 358 (oM 357), of 359 (oM 47) 358, of 360 (oC .neq 41 359 0) 358, oo 361 (.pick (.tmp 358) (.const (.bool true)) (.tmp 360)), oo 362 (oM 361), of 363 (oM 37) 362, of 364 (oN 363 39) 362, of 365 (oM 35) 362, of 366 (oN 365 39) 362, of 367 (oB .neq 3 364 366) 362, oo 368 (.pick (.tmp 362) (.const (.bool true)) (.tmp 367)), oo 369 (oM 368), of 370 (oM 38) 369, of 371 (oM 40) 369, of 372 (oB .gtr 3 370 371) 369, oo 373 (.pick (.tmp 369) (.const (.bool true)) (.tmp 372)), oo 374 (oM 373), of 375 (oM 43) 374, of 376 (oM 46) 374, of 377 (oB .add 3 375 376) 374, of 378 (oM 38) 374, of 379 (oB .lss 3 377 378) 374, oo 380 (.pick (.tmp 374) (.const (.bool true)) (.tmp 379))] ∧ RR r3_63 [oo 2 (.assign (.const (.bool false)))] ∧ RR r3_64 [oo 381 (oM 35), oo 382 (oN 381 39), oo 383 (.move (.const (.int .i64 0)))] ∧ RR r3_65 [oo 384 (oB .lss 3 383 382)] ∧ RR r3_66 [oo 385 (oI 39 381 383), oo 386 (oL 3 385), oo 49 (oG 386)] ∧ RR r3_67 [oo 387 (oM 37), oo 388 (oM 49), oo 389 (o2 13 387 388 39 3), oo 390 (.unOp .not 4 (.tmp 389))] ∧ RR r3_68 [oo 2 (.assign (.const (.bool false)))] ∧ RR r3_69 [oo 391 (oC .add 3 383 1), oo 383 (oM 391)] ∧ RI b3_5 (.seq (r3_65) (.seq (.cond (.tmp 384) (.skip) (.exit 10)) (.seq (.block 11 (.seq (r3_66) (.seq (r3_67) (.cond (.tmp 390) (.seq (r3_68) (.ret)) (.skip))))) (r3_69)))) ∧ KeepS T 3 b3_5 [37, 381, 382, 383] ∧ RR r3_70 [oo 392 (.call ⟨.value (.func 5), #[], #[]⟩), oo 2 (oG 392)] ∧ FinF T 3 [.tmp 2] false := by refine ⟨runR T ?_, runR T ?_, runR T ?_, runR T ?_, runR T ?_, runR T ?_, runR T ?_, runR T ?_, runR T ?_, runR T ?_, runR T ?_, runR T ?_, runR T ?_, runR T ?_, runR T ?_, runR T ?_, runR T ?_, runR T ?_, runR T ?_, runR T ?_, runIc T ?_, keepS T ?_, runR T ?_, runR T ?_, runR T ?_, runR T ?_, runD T (id := 24) ?_ ?_, runR T ?_, runR T ?_, runD T (id := 27) ?_ ?_, runR T ?_, runD T (id := 29) ?_ ?_, runR T ?_, runR T ?_, runIc T ?_, keepS T ?_, runD T (id := 32) ?_ ?_, runR T ?_, runR T ?_, runR T ?_, runR T ?_, runR T ?_, runD T (id := 38) ?_ ?_, runR T ?_, runR T ?_, runIc T ?_, keepS T ?_, runR T ?_, runR T ?_, runR T ?_, runR T ?_, runR T ?_, runR T ?_, runR T ?_, runD T (id := 48) ?_ ?_, runR T ?_, runR T ?_, runIc T ?_, keepS T ?_, runR T ?_, runR T ?_, runR T ?_, runR T ?_, runR T ?_, runR T ?_, runR T ?_, runIc T ?_, keepS T ?_, runD T (id := 58) ?_ ?_, runD T (id := 59) ?_ ?_, runD T (id := 60) ?_ ?_, runD T (id := 61) ?_ ?_, runR T ?_, runR T ?_, runR T ?_, runR T ?_, runR T ?_, runR T ?_, runR T ?_, runR T ?_, runIc T ?_, keepS T ?_, runR T ?_, finI T (F := Tryz.f3) ?_ ?_ ?_⟩ <;> kernel_rfl
end Go.Den.FaT
end
