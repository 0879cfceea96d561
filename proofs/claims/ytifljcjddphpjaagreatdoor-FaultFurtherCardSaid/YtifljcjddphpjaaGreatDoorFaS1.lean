import Derived.Test.YtifljcjddphpjaaGreatDoorFaX1
import Derived.Test.YtifljcjddphpjaaGreatDoorZQ
set_option linter.all false
set_option maxHeartbeats 8000000
set_option maxRecDepth 100000
noncomputable section
namespace Go.Den.FaU
open Go Go.Proofs Go.Den
abbrev RR (c : Code) (os : List SO) : Prop := RunR T c os
abbrev RD (c : Code) (f : Nat) (os : List SO) (ps : List (Nat × Nat)) : Prop := RunD T c f os ps
abbrev RI (r c : Code) : Prop := RunIc T r c
@[go_sem] theorem fr7 : Fct T 7 false none false ∧ Res1 T 7 4 := by refine ⟨⟨?_, ?_, ?_⟩, res1 T (F := Tryz.f7) ?_ ?_⟩ <;> kernel_rfl
@[go_sem] theorem fr15 : Fct T 15 false (some (den FaT.T 15)) false ∧ Res1 T 15 4 := by refine ⟨⟨?_, ?_, ?_⟩, res1 T (F := Tryz.f15) ?_ ?_⟩ <;> kernel_rfl
@[go_sem] theorem fr16 : Fct T 16 false (some (den FaT.T 16)) false ∧ Res1 T 16 4 := by refine ⟨⟨?_, ?_, ?_⟩, res1 T (F := Tryz.f16) ?_ ?_⟩ <;> kernel_rfl
@[go_sem] theorem fr18 : Fct T 18 false (some (den FaT.T 18)) false ∧ Res1 T 18 34 := by refine ⟨⟨?_, ?_, ?_⟩, res1 T (F := Tryz.f18) ?_ ?_⟩ <;> kernel_rfl
@[go_sem] theorem fr20 : Fct T 20 false (some (den FaT.T 20)) false ∧ Res1 T 20 3 := by refine ⟨⟨?_, ?_, ?_⟩, res1 T (F := Tryz.f20) ?_ ?_⟩ <;> kernel_rfl
@[go_sem] theorem fr27 : Fct T 27 false (some (den FaT.T 27)) false ∧ Res1 T 27 28 := by refine ⟨⟨?_, ?_, ?_⟩, res1 T (F := Tryz.f27) ?_ ?_⟩ <;> kernel_rfl
@[go_sem] theorem fr50 : Fct T 50 false (some (den FaT.T 50)) false ∧ Res2 T 50 34 29 [] := by refine ⟨⟨?_, ?_, ?_⟩, res2 T (F := Tryz.f50) ?_ ?_⟩ <;> kernel_rfl
@[go_sem] theorem fr51 : Fct T 51 false (some (den FaT.T 51)) false ∧ Res1 T 51 3 := by refine ⟨⟨?_, ?_, ?_⟩, res1 T (F := Tryz.f51) ?_ ?_⟩ <;> kernel_rfl
@[go_sem] theorem fr52 : Fct T 52 false none true ∧ Res1 T 52 25 := by refine ⟨⟨?_, ?_, ?_⟩, res1 T (F := Tryz.f52) ?_ ?_⟩ <;> kernel_rfl
@[go_sem] theorem fr53 : Fct T 53 false (some (den FaT.T 53)) false ∧ Res1 T 53 4 := by refine ⟨⟨?_, ?_, ?_⟩, res1 T (F := Tryz.f53) ?_ ?_⟩ <;> kernel_rfl
@[go_sem] theorem fr54 : Fct T 54 false (some (den FaT.T 54)) false ∧ Res1 T 54 25 := by refine ⟨⟨?_, ?_, ?_⟩, res1 T (F := Tryz.f54) ?_ ?_⟩ <;> kernel_rfl
def r7_0 := nv 2 Tryz.f7
def r7_1 := nv 12 Tryz.f7
def r7_2 := nv 52 Tryz.f7
def r7_3 := nv 14 Tryz.f7
def r7_4 := nv 30 Tryz.f7
def r7_5 := nv 124 Tryz.f7
def r7_6 := nv 250 Tryz.f7
def r7_7 := nv 126 Tryz.f7
def r7_8 := nv 508 Tryz.f7
def r7_9 := nv 1018 Tryz.f7
def r7_10 := nv 510 Tryz.f7
theorem ent7 : Ent T 7 62 (.seq (r7_0) (.seq (.seq (r7_1) (.cond (.tmp 23) (.seq (r7_2) (.ret)) (.skip))) (.seq (r7_3) (.seq (r7_4) (.seq (.seq (r7_5) (.cond (.tmp 39) (r7_6) (.skip))) (.seq (r7_7) (.seq (.seq (r7_8) (.cond (.tmp 45) (r7_9) (.skip))) (.seq (r7_10) (.ret))))))))) := entI T (F := Tryz.f7) (by kernel_rfl) (by kernel_rfl) (by kernel_rfl)
@[go_sem ↓] theorem run7 : RR r7_0 [oo 3 (.box 25 (.tmp 0)), oo 6 (.assign (.const (.bool false)))] ∧ RR r7_1 [oo 11 (oL 25 3), oo 12 (o1 15 11 25), oo 13 (.unOp .not 4 (.tmp 12)), oo 14 (oM 13), of 15 (oM 1) 14, of 16 (oN 15 28) 14, of 17 (oC .gtr 3 16 9) 14, oo 18 (.pick (.tmp 14) (.const (.bool true)) (.tmp 17)), oo 19 (oM 18), of 20 (oM 2) 19, of 21 (oN 20 72) 19, of 22 (oC .gtr 3 21 9) 19, oo 23 (.pick (.tmp 19) (.const (.bool true)) (.tmp 22))] ∧ RR r7_2 [oo 24 (.call ⟨.value (.func 16), #[], #[]⟩), oo 6 (oG 24)] ∧ RR r7_3 [oo 26 (oL 25 3), oo 27 (o1 18 26 25), oo 28 (oM 1), oo 29 (o1 27 28 28), oo 30 (.buildSlice 72 0 #[]), oo 31 (oM 2), oo 32 (oA 30 31 72), oo 33 (.call ⟨.value (.func 50), #[.tmp 27, .tmp 29, .tmp 32], #[34, 28, 72]⟩), oo 25 (oM 33), oo 34 (oX 25 0), oo 35 (oX 25 1), oo 7 (.alloc 34), ow 34 7 34, oo 8 (oG 35)] ∧ RR r7_4 [oo 36 (oL 25 3), oo 37 (o1 20 36 25), oo 9 (oG 37)] ∧ RR r7_5 [oo 38 (oM 9), oo 39 (oC .eql 3 38 0)] ∧ RR r7_6 [oo 40 (oL 25 3), oo 41 (oM 1), oo 42 (oM 2), oo 43 (.call ⟨.value (.func 51), #[.tmp 40, .tmp 41, .tmp 42], #[25, 28, 72]⟩), oo 9 (oG 43)] ∧ RR r7_7 [oo 10 (.alloc 25)] ∧ RR r7_8 [oo 44 (oM 9), oo 45 (oC .eql 3 44 0)] ∧ RR r7_9 [oo 46 (oL 25 3), oo 47 (oM 1), oo 48 (oM 2), oo 49 (.call ⟨.value (.func 52), #[.tmp 46, .tmp 47, .tmp 48], #[25, 28, 72]⟩), ow 25 10 49] ∧ RD r7_10 7 [oo 50 (oL 34 7), oo 51 (o1 54 50 34), oo 52 (oL 25 10), oo 53 (o2 53 51 52 25 25), oo 54 (oM 53), ot 55 (oM 8) 54, ot 56 (oM 9) 54, ot 57 (oB .eql 3 55 56) 54, oo 58 (.pick (.tmp 54) (.tmp 57) (.const (.bool false))), oo 59 (oM 58), ot 60 (.call ⟨.value (.func 16), #[], #[]⟩) 59, oo 61 (.pick (.tmp 59) (.tmp 60) (.const (.bool false))), oo 6 (oG 61)] [(0, 2), (1, 2), (5, 6)] ∧ FinF T 7 [.tmp 6] false := by refine ⟨runR T ?_, runR T ?_, runR T ?_, runR T ?_, runR T ?_, runR T ?_, runR T ?_, runR T ?_, runR T ?_, runR T ?_, runD T (id := 10) ?_ ?_, finI T (F := Tryz.f7) ?_ ?_ ?_⟩ <;> kernel_rfl
@[go_sem] theorem fr88 : Fct T 88 true none true ∧ Res1 T 88 25 := by refine ⟨⟨?_, ?_, ?_⟩, res1 T (F := Tryz.f88) ?_ ?_⟩ <;> kernel_rfl
def r52_0 := nv 2 Tryz.f52
def r52_1 := nv 6 Tryz.f52
def r52_2 := nv 28 Tryz.f52
def b52_0 := nv 116 Tryz.f52
def r52_3 := nv 464 Tryz.f52
def r52_5 := nv 932 Tryz.f52
def r52_4 := nv 467 Tryz.f52
def r52_6 := nv 60 Tryz.f52
def b52_1 := nv 244 Tryz.f52
def r52_7 := nv 976 Tryz.f52
def r52_9 := nv 1956 Tryz.f52
def r52_8 := nv 979 Tryz.f52
def r52_10 := nv 62 Tryz.f52
theorem ent52 : Ent T 52 57 (.seq (r52_0) (.seq (r52_1) (.seq (.seq (r52_2) (.block 0 (.loop b52_0))) (.seq (.seq (r52_6) (.block 2 (.loop b52_1))) (.seq (r52_10) (.ret)))))) := entI T (F := Tryz.f52) (by kernel_rfl) (by kernel_rfl) (by kernel_rfl)
@[go_sem ↓] theorem run52 : RR r52_0 [oo 3 (.box 25 (.tmp 0)), oo 6 (.alloc 25)] ∧ RR r52_1 [oo 10 (oL 25 3), oo 11 (o1 88 10 25), oo 7 (.alloc 25), ow 25 7 11] ∧ RR r52_2 [oo 8 (oi 0)] ∧ RR r52_3 [oo 12 (oM 8), oo 13 (oM 1), oo 14 (oN 13 28), oo 15 (oB .lss 3 12 14)] ∧ RD r52_5 52 [oo 18 (oF 25 7 0), oo 19 (oL 22 18), oo 20 (oM 8), oo 21 (oF 25 7 0), oo 22 (oL 22 21), oo 23 (oM 8), oo 24 (oI 22 22 23), oo 25 (oL 28 24), oo 26 (oM 1), oo 27 (oM 8), oo 28 (oI 28 26 27), oo 29 (oL 3 28), oo 30 (oS 28 29), oo 31 (oA 25 30 28), oo 32 (oI 22 19 20), ow 28 32 31] [(0, 2), (1, 2), (0, 3), (1, 3), (2, 3), (0, 4), (1, 4), (2, 4), (0, 5), (1, 5), (2, 5), (3, 5), (4, 5), (0, 6), (1, 6), (2, 6), (0, 7), (1, 7), (2, 7), (0, 8), (1, 8), (2, 8), (3, 8), (4, 8), (5, 8), (6, 8), (7, 8), (0, 9), (1, 9), (2, 9), (3, 9), (4, 9), (5, 9), (6, 9), (7, 9), (8, 9), (0, 10), (1, 10), (2, 10), (3, 10), (4, 10), (5, 10), (6, 10), (7, 10), (0, 11), (1, 11), (2, 11), (3, 11), (4, 11), (5, 11), (6, 11), (7, 11), (0, 12), (1, 12), (2, 12), (3, 12), (4, 12), (5, 12), (6, 12), (7, 12), (0, 13), (1, 13), (2, 13)] ∧ RR r52_4 [oo 16 (oM 8), oo 17 (oC .add 3 16 1), oo 8 (oG 17)] ∧ RI b52_0 (.seq (.seq (r52_3) (.cond (.tmp 15) (.skip) (.exit 0))) (.seq (.block 1 (r52_5)) (r52_4))) ∧ KeepS T 52 b52_0 [1, 2, 6, 7, 8] ∧ RR r52_6 [oo 9 (oi 0)] ∧ RR r52_7 [oo 33 (oM 9), oo 34 (oM 2), oo 35 (oN 34 72), oo 36 (oB .lss 3 33 35)] ∧ RD r52_9 52 [oo 39 (oF 25 7 2), oo 40 (oL 23 39), oo 41 (oM 9), oo 42 (oF 25 7 2), oo 43 (oL 23 42), oo 44 (oM 9), oo 45 (oI 23 43 44), oo 46 (oF 140 45 2), oo 47 (oL 72 46), oo 48 (oM 2), oo 49 (oM 9), oo 50 (oI 72 48 49), oo 51 (oL 142 50), oo 52 (oS 72 51), oo 53 (oA 47 52 72), oo 54 (oI 23 40 41), oo 55 (oF 140 54 2), ow 72 55 53] [(0, 2), (1, 2), (0, 3), (1, 3), (2, 3), (0, 4), (1, 4), (2, 4), (0, 5), (1, 5), (2, 5), (3, 5), (4, 5), (0, 6), (1, 6), (2, 6), (0, 7), (1, 7), (2, 7), (0, 8), (1, 8), (2, 8), (0, 9), (1, 9), (2, 9), (3, 9), (4, 9), (5, 9), (6, 9), (7, 9), (8, 9), (0, 10), (1, 10), (2, 10), (3, 10), (4, 10), (5, 10), (6, 10), (7, 10), (8, 10), (9, 10), (0, 11), (1, 11), (2, 11), (3, 11), (4, 11), (5, 11), (6, 11), (7, 11), (8, 11), (0, 12), (1, 12), (2, 12), (3, 12), (4, 12), (5, 12), (6, 12), (7, 12), (8, 12), (0, 13), (1, 13), (2, 13), (3, 13), (4, 13), (5, 13), (6, 13), (7, 13), (8, 13), (0, 14), (1, 14), (2, 14)] ∧ RR r52_8 [oo 37 (oM 9), oo 38 (oC .add 3 37 1), oo 9 (oG 38)] ∧ RI b52_1 (.seq (.seq (r52_7) (.cond (.tmp 36) (.skip) (.exit 2))) (.seq (.block 3 (r52_9)) (r52_8))) ∧ KeepS T 52 b52_1 [2, 6, 7, 9] ∧ RR r52_10 [oo 56 (oL 25 7), ow 25 6 56] ∧ FinF T 52 [.cell 6 25] false := by refine ⟨runR T ?_, runR T ?_, runR T ?_, runR T ?_, runD T (id := 5) ?_ ?_, runR T ?_, runIc T ?_, keepS T ?_, runR T ?_, runR T ?_, runD T (id := 9) ?_ ?_, runR T ?_, runIc T ?_, keepS T ?_, runR T ?_, finI T (F := Tryz.f52) ?_ ?_ ?_⟩ <;> kernel_rfl
@[go_sem] theorem fr172 : Fct T 172 true none true ∧ Res1 T 172 23 := by refine ⟨⟨?_, ?_, ?_⟩, res1 T (F := Tryz.f172) ?_ ?_⟩ <;> kernel_rfl
def r88_0 := nv 2 Tryz.f88
def r88_1 := nv 6 Tryz.f88
def r88_2 := nv 28 Tryz.f88
def b88_0 := nv 116 Tryz.f88
def r88_3 := nv 464 Tryz.f88
def r88_5 := nv 932 Tryz.f88
def r88_4 := nv 467 Tryz.f88
def r88_6 := nv 30 Tryz.f88
def r88_7 := nv 62 Tryz.f88
theorem ent88 : Ent T 88 32 (.seq (r88_0) (.seq (r88_1) (.seq (.seq (r88_2) (.block 0 (.loop b88_0))) (.seq (r88_6) (.seq (r88_7) (.ret)))))) := entI T (F := Tryz.f88) (by kernel_rfl) (by kernel_rfl) (by kernel_rfl)
@[go_sem ↓] theorem run88 : RR r88_0 [oo 1 (.box 25 (.tmp 0)), oo 2 (.alloc 25)] ∧ RR r88_1 [oo 5 (oF 25 1 1), oo 6 (oL 3 5), oo 7 (.build 25 #[(1, .tmp 6)]), oo 3 (.alloc 25), ow 25 3 7] ∧ RR r88_2 [oo 4 (oi 0)] ∧ RR r88_3 [oo 8 (oM 4), oo 9 (oF 25 1 0), oo 10 (oL 22 9), oo 11 (oN 10 22), oo 12 (oB .lss 3 8 11)] ∧ RD r88_5 88 [oo 15 (oF 25 3 0), oo 16 (oL 22 15), oo 17 (.buildSlice 28 0 #[]), oo 18 (oF 25 1 0), oo 19 (oL 22 18), oo 20 (oM 4), oo 21 (oI 22 19 20), oo 22 (oL 28 21), oo 23 (oA 17 22 28), oo 24 (oS 22 23), oo 25 (oA 16 24 22), oo 26 (oF 25 3 0), ow 22 26 25] [(0, 2), (1, 2), (0, 3), (1, 3), (2, 3), (0, 4), (1, 4), (2, 4), (0, 5), (1, 5), (2, 5), (3, 5), (4, 5), (0, 6), (1, 6), (2, 6), (0, 7), (1, 7), (2, 7), (0, 8), (1, 8), (0, 9), (1, 9)] ∧ RR r88_4 [oo 13 (oM 4), oo 14 (oC .add 3 13 1), oo 4 (oG 14)] ∧ RI b88_0 (.seq (.seq (r88_3) (.cond (.tmp 12) (.skip) (.exit 0))) (.seq (.block 1 (r88_5)) (r88_4))) ∧ KeepS T 88 b88_0 [1, 2, 3, 4] ∧ RR r88_6 [oo 27 (oF 25 1 2), oo 28 (oL 23 27), oo 29 (o1 172 28 23), oo 30 (oF 25 3 2), ow 23 30 29] ∧ RR r88_7 [oo 31 (oL 25 3), ow 25 2 31] ∧ FinF T 88 [.cell 2 25] true := by refine ⟨runR T ?_, runR T ?_, runR T ?_, runR T ?_, runD T (id := 5) ?_ ?_, runR T ?_, runIc T ?_, keepS T ?_, runR T ?_, runR T ?_, finI T (F := Tryz.f88) ?_ ?_ ?_⟩ <;> kernel_rfl
def r172_0 := nv 2 Tryz.f172
def r172_1 := nv 6 Tryz.f172
def r172_2 := nv 28 Tryz.f172
def b172_0 := nv 116 Tryz.f172
def r172_3 := nv 464 Tryz.f172
def r172_5 := nv 1864 Tryz.f172
def r172_6 := nv 3730 Tryz.f172
def r172_7 := nv 3731 Tryz.f172
def r172_4 := nv 467 Tryz.f172
def r172_8 := nv 30 Tryz.f172
theorem ent172 : Ent T 172 26 (.seq (r172_0) (.seq (r172_1) (.seq (.seq (r172_2) (.block 0 (.loop b172_0))) (.seq (r172_8) (.ret))))) := entI T (F := Tryz.f172) (by kernel_rfl) (by kernel_rfl) (by kernel_rfl)
@[go_sem ↓] theorem run172 : RR r172_0 [oo 2 on] ∧ RR r172_1 [oo 3 on] ∧ RR r172_2 [oo 4 (oi 0)] ∧ RR r172_3 [oo 6 (oM 4), oo 7 (oM 0), oo 8 (oN 7 23), oo 9 (oB .lss 3 6 8)] ∧ RR r172_5 [oo 12 (oM 0), oo 13 (oM 4), oo 14 (oI 23 12 13), oo 15 (oL 140 14), oo 5 (.alloc 140), ow 140 5 15] ∧ RR r172_6 [oo 16 (.buildSlice 72 0 #[]), oo 17 (oF 140 5 2), oo 18 (oL 72 17), oo 19 (oA 16 18 72), oo 20 (oF 140 5 2), ow 72 20 19] ∧ RR r172_7 [oo 21 (oM 3), oo 22 (oL 140 5), oo 23 (oS 23 22), oo 24 (oA 21 23 23), oo 3 (oG 24)] ∧ RR r172_4 [oo 10 (oM 4), oo 11 (oC .add 3 10 1), oo 4 (oG 11)] ∧ RI b172_0 (.seq (.seq (r172_3) (.cond (.tmp 9) (.skip) (.exit 0))) (.seq (.block 1 (.seq (r172_5) (.seq (r172_6) (r172_7)))) (r172_4))) ∧ KeepS T 172 b172_0 [0, 3, 4] ∧ RR r172_8 [oo 25 (oM 3), oo 2 (oG 25)] ∧ FinF T 172 [.tmp 2] true := by refine ⟨runR T ?_, runR T ?_, runR T ?_, runR T ?_, runR T ?_, runR T ?_, runR T ?_, runR T ?_, runIc T ?_, keepS T ?_, runR T ?_, finI T (F := Tryz.f172) ?_ ?_ ?_⟩ <;> kernel_rfl
end Go.Den.FaU
end
