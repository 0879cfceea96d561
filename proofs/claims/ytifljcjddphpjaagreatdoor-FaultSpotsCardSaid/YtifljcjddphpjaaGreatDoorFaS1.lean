import Derived.Test.YtifljcjddphpjaaGreatDoorFaX2
import Derived.Test.YtifljcjddphpjaaGreatDoorZS
set_option linter.all false
set_option maxHeartbeats 8000000
set_option maxRecDepth 100000
noncomputable section
namespace Go.Den.FaU
open Go Go.Proofs Go.Den
abbrev RR (c : Code) (os : List SO) : Prop := RunR T c os
abbrev RD (c : Code) (f : Nat) (os : List SO) (ps : List (Nat × Nat)) : Prop := RunD T c f os ps
abbrev RI (r c : Code) : Prop := RunIc T r c
@[go_sem] theorem fr16 : Fct T 16 false (some (den2 FaT.T 16)) false ∧ Res1 T 16 4 := by refine ⟨⟨?_, ?_, ?_⟩, res1 T (F := Tryz.f16) ?_ ?_⟩ <;> kernel_rfl
@[go_sem] theorem fr55 : Fct T 55 false (some (den2 FaT.T 55)) false ∧ Res1 T 55 4 := by refine ⟨⟨?_, ?_, ?_⟩, res1 T (F := Tryz.f55) ?_ ?_⟩ <;> kernel_rfl
@[go_sem] theorem fr56 : Fct T 56 false none false ∧ Res2 T 56 48 29 [] := by refine ⟨⟨?_, ?_, ?_⟩, res2 T (F := Tryz.f56) ?_ ?_⟩ <;> kernel_rfl
@[go_sem] theorem fr57 : Fct T 57 false (some (den2 FaT.T 57)) false ∧ Res1 T 57 85 := by refine ⟨⟨?_, ?_, ?_⟩, res1 T (F := Tryz.f57) ?_ ?_⟩ <;> kernel_rfl
@[go_sem] theorem fr58 : Fct T 58 false none false ∧ Res2 T 58 87 29 [] := by refine ⟨⟨?_, ?_, ?_⟩, res2 T (F := Tryz.f58) ?_ ?_⟩ <;> kernel_rfl
@[go_sem] theorem fr59 : Fct T 59 false (some (den2 FaT.T 59)) false ∧ Res1 T 59 3 := by refine ⟨⟨?_, ?_, ?_⟩, res1 T (F := Tryz.f59) ?_ ?_⟩ <;> kernel_rfl
@[go_sem] theorem fr63 : Fct T 63 false (some (den2 FaT.T 63)) false ∧ Res1 T 63 29 := by refine ⟨⟨?_, ?_, ?_⟩, res1 T (F := Tryz.f63) ?_ ?_⟩ <;> kernel_rfl
@[go_sem] theorem fr150 : Fct T 150 false (some (den2 FaT.T 150)) false ∧ Res1 T 150 29 := by refine ⟨⟨?_, ?_, ?_⟩, res1 T (F := Tryz.f150) ?_ ?_⟩ <;> kernel_rfl
@[go_sem] theorem fr151 : Fct T 151 false none false ∧ Res1 T 151 48 := by refine ⟨⟨?_, ?_, ?_⟩, res1 T (F := Tryz.f151) ?_ ?_⟩ <;> kernel_rfl
def r56_0 := nv 2 Tryz.f56
def r56_1 := nv 12 Tryz.f56
def r56_2 := nv 26 Tryz.f56
def r56_3 := nv 108 Tryz.f56
def r56_4 := nv 14 Tryz.f56
theorem ent56 : Ent T 56 16 (.seq (r56_0) (.seq (.seq (r56_1) (.seq (r56_2) (.cond (.tmp 11) (.seq (r56_3) (.ret)) (.skip)))) (.seq (r56_4) (.ret)))) := entI T (F := Tryz.f56) (by kernel_rfl) (by kernel_rfl) (by kernel_rfl)
@[go_sem ↓] theorem run56 : RR r56_0 [oo 2 (.box 85 (.tmp 0)), oo 4 on, oo 5 (oi 0)] ∧ RR r56_1 [oo 7 (oL 85 2), oo 8 (oM 1), oo 9 (o2 150 7 8 85 3), oo 6 (oG 9)] ∧ RR r56_2 [oo 10 (oM 6), oo 11 (oC .neq 29 10 0)] ∧ RR r56_3 [oo 12 (oM 6), oo 4 on, oo 5 (oG 12)] ∧ RR r56_4 [oo 13 (oL 85 2), oo 14 (oM 1), oo 15 (o2 151 13 14 85 3), oo 4 (oG 15), oo 5 (oi 0)] ∧ FinF T 56 [.tmp 4, .tmp 5] false := by refine ⟨runR T ?_, runR T ?_, runR T ?_, runR T ?_, runR T ?_, finI T (F := Tryz.f56) ?_ ?_ ?_⟩ <;> kernel_rfl
@[go_sem] theorem fr152 : Fct T 152 false (some (den2 FaT.T 152)) false ∧ Res1 T 152 100 := by refine ⟨⟨?_, ?_, ?_⟩, res1 T (F := Tryz.f152) ?_ ?_⟩ <;> kernel_rfl
@[go_sem] theorem fr153 : Fct T 153 false (some (den2 FaT.T 153)) false ∧ Res1 T 153 87 := by refine ⟨⟨?_, ?_, ?_⟩, res1 T (F := Tryz.f153) ?_ ?_⟩ <;> kernel_rfl
@[go_sem] theorem fr154 : Fct T 154 false (some (den2 FaT.T 154)) false ∧ Res1 T 154 153 := by refine ⟨⟨?_, ?_, ?_⟩, res1 T (F := Tryz.f154) ?_ ?_⟩ <;> kernel_rfl
def r58_0 := nv 2 Tryz.f58
def r58_1 := nv 12 Tryz.f58
def r58_2 := nv 26 Tryz.f58
def r58_3 := nv 108 Tryz.f58
def r58_4 := nv 14 Tryz.f58
def r58_5 := nv 30 Tryz.f58
def r58_6 := nv 124 Tryz.f58
def b58_0 := nv 500 Tryz.f58
def r58_7 := nv 1000 Tryz.f58
def r58_8 := nv 16024 Tryz.f58
def r58_9 := nv 16025 Tryz.f58
def r58_10 := nv 4007 Tryz.f58
def r58_11 := nv 126 Tryz.f58
def r58_12 := nv 508 Tryz.f58
def b58_1 := nv 2036 Tryz.f58
def r58_13 := nv 4072 Tryz.f58
def r58_14 := nv 65176 Tryz.f58
def r58_15 := nv 260708 Tryz.f58
def r58_16 := nv 260710 Tryz.f58
def r58_17 := nv 521422 Tryz.f58
def r58_18 := nv 2085692 Tryz.f58
def b58_2 := nv 8342772 Tryz.f58
def r58_19 := nv 33371088 Tryz.f58
def r58_21 := nv 133484360 Tryz.f58
def b58_3 := nv 533937444 Tryz.f58
def r58_22 := nv 1067874888 Tryz.f58
def r58_23 := nv 17085998232 Tryz.f58
def r58_24 := nv 34171996466 Tryz.f58
def r58_25 := nv 68343992934 Tryz.f58
def r58_26 := nv 273375971740 Tryz.f58
def r58_27 := nv 273375971741 Tryz.f58
def r58_28 := nv 4271499559 Tryz.f58
def r58_20 := nv 33371091 Tryz.f58
def r58_29 := nv 2085694 Tryz.f58
def r58_30 := nv 2085695 Tryz.f58
def r58_31 := nv 16295 Tryz.f58
def r58_32 := nv 510 Tryz.f58
theorem ent58 : Ent T 58 100 (.seq (r58_0) (.seq (.seq (r58_1) (.seq (r58_2) (.cond (.tmp 23) (.seq (r58_3) (.ret)) (.skip)))) (.seq (r58_4) (.seq (r58_5) (.seq (.seq (r58_6) (.block 0 (.loop b58_0))) (.seq (r58_11) (.seq (.seq (r58_12) (.block 2 (.loop b58_1))) (.seq (r58_32) (.ret))))))))) := entI T (F := Tryz.f58) (by kernel_rfl) (by kernel_rfl) (by kernel_rfl)
@[go_sem ↓] theorem run58 : RR r58_0 [oo 2 (.box 85 (.tmp 0)), oo 4 on, oo 5 (oi 0)] ∧ RR r58_1 [oo 19 (oL 85 2), oo 20 (oM 1), oo 21 (o2 150 19 20 85 3), oo 6 (oG 21)] ∧ RR r58_2 [oo 22 (oM 6), oo 23 (oC .neq 29 22 0)] ∧ RR r58_3 [oo 24 (oM 6), oo 4 on, oo 5 (oG 24)] ∧ RR r58_4 [oo 25 (oL 85 2), oo 26 (oM 1), oo 27 (o2 151 25 26 85 3), oo 7 (oG 27)] ∧ RR r58_5 [oo 28 (.makeMap 224 none), oo 8 (oG 28)] ∧ RR r58_6 [oo 29 (oM 7), oo 30 (oN 29 48), oo 31 (.move (.const (.int .i64 0)))] ∧ RR r58_7 [oo 32 (oB .lss 3 31 30)] ∧ RR r58_8 [oo 33 (oI 48 29 31), oo 34 (oL 100 33), oo 10 (.alloc 100), ow 100 10 34] ∧ RR r58_9 [oo 35 (oM 8), oo 36 (oL 100 10), ⟨none, .mapUpdate 224 (.tmp 35) (.tmp 36) (.const (.bool true)), none⟩] ∧ RR r58_10 [oo 37 (oC .add 3 31 1), oo 31 (oM 37)] ∧ RI b58_0 (.seq (r58_7) (.seq (.cond (.tmp 32) (.skip) (.exit 0)) (.seq (.block 1 (.seq (r58_8) (r58_9))) (r58_10)))) ∧ KeepS T 58 b58_0 [7, 8, 29, 30, 31] ∧ RR r58_11 [oo 11 on] ∧ RR r58_12 [oo 38 (oM 7), oo 39 (oN 38 48), oo 40 (.move (.const (.int .i64 0)))] ∧ RR r58_13 [oo 41 (oB .lss 3 40 39)] ∧ RR r58_14 [oo 42 (oI 48 38 40), oo 43 (oL 100 42), oo 13 (.alloc 100), ow 100 13 43] ∧ RR r58_15 [oo 44 (oM 8), oo 45 (oL 100 13), oo 46 (.lookup 224 (.tmp 44) (.tmp 45) false), oo 47 (.unOp .not 4 (.tmp 46))] ∧ RR r58_16 [oo 48 (oM 8), oo 49 (oL 100 13), ⟨none, .call ⟨.builtin .delete, #[.tmp 48, .tmp 49], #[224, 100]⟩, none⟩] ∧ RR r58_17 [oo 50 (oL 100 13), oo 51 (.build 153 #[(0, .tmp 50)]), oo 52 (oL 100 13), oo 53 (oS 48 52), oo 54 (.build 227 #[(0, .tmp 51), (1, .tmp 53)]), oo 14 (.alloc 227), ow 227 14 54] ∧ RR r58_18 [oo 15 (oi 0)] ∧ RR r58_19 [oo 55 (oM 15), oo 56 (oF 227 14 1), oo 57 (oL 48 56), oo 58 (oN 57 48), oo 59 (oB .lss 3 55 58)] ∧ RR r58_21 [oo 62 (.load 231 (.global 0)), oo 63 (.move (.const (.int .i64 0)))] ∧ RR r58_22 [oo 64 (oC .lss 3 63 4)] ∧ RR r58_23 [oo 65 (.index 231 (.tmp 62) (.tmp 63)), oo 17 (.alloc 230), ow 230 17 65] ∧ RD r58_24 58 [oo 66 (oF 227 14 1), oo 67 (oL 48 66), oo 68 (oM 15), oo 69 (oI 48 67 68), oo 70 (oL 100 69), oo 71 (oF 230 17 1), oo 72 (oL 228 71), oo 73 (.build 100 #[(0, .const (.int .i64 1))]), oo 74 (.call ⟨.value (.tmp 72), #[.tmp 73], #[100]⟩), oo 75 (o2 152 70 74 100 100), oo 18 (.alloc 100), ow 100 18 75] [(0, 2), (1, 2), (0, 5), (1, 5), (2, 5), (3, 5), (4, 5), (0, 6), (1, 6), (2, 6), (3, 6), (4, 6), (0, 7), (1, 7), (2, 7), (3, 7), (4, 7), (5, 7), (6, 7), (0, 8), (1, 8), (2, 8), (3, 8), (4, 8), (0, 10), (1, 10), (2, 10), (3, 10), (4, 10), (5, 10), (6, 10), (7, 10), (8, 10), (9, 10)] ∧ RR r58_25 [oo 76 (oM 8), oo 77 (oL 100 18), oo 78 (.lookup 224 (.tmp 76) (.tmp 77) false)] ∧ RR r58_26 [oo 79 (oM 8), oo 80 (oL 100 18), ⟨none, .call ⟨.builtin .delete, #[.tmp 79, .tmp 80], #[224, 100]⟩, none⟩] ∧ RR r58_27 [oo 81 (oF 227 14 1), oo 82 (oL 48 81), oo 83 (oL 100 18), oo 84 (oS 48 83), oo 85 (oA 82 84 48), oo 86 (oF 227 14 1), ow 48 86 85] ∧ RR r58_28 [oo 87 (oC .add 3 63 1), oo 63 (oM 87)] ∧ RI b58_3 (.seq (r58_22) (.seq (.cond (.tmp 64) (.skip) (.exit 6)) (.seq (.block 7 (.seq (r58_23) (.seq (r58_24) (.seq (r58_25) (.cond (.tmp 78) (.seq (r58_26) (r58_27)) (.skip)))))) (r58_28)))) ∧ KeepS T 58 b58_3 [8, 11, 14, 15, 38, 39, 40, 62, 63] ∧ RR r58_20 [oo 60 (oM 15), oo 61 (oC .add 3 60 1), oo 15 (oG 61)] ∧ RI b58_2 (.seq (.seq (r58_19) (.cond (.tmp 59) (.skip) (.exit 4))) (.seq (.block 5 (.seq (r58_21) (.block 6 (.loop b58_3)))) (r58_20))) ∧ KeepS T 58 b58_2 [8, 11, 14, 15, 38, 39, 40] ∧ RR r58_29 [oo 88 (oF 227 14 1), oo 89 (oL 48 88), oo 90 (oN 89 48), oo 91 (oF 227 14 0), oo 92 (oF 153 91 1), ow 3 92 90] ∧ RR r58_30 [oo 93 (oM 11), oo 94 (oL 227 14), oo 95 (oS 225 94), oo 96 (oA 93 95 225), oo 11 (oG 96)] ∧ RR r58_31 [oo 97 (oC .add 3 40 1), oo 40 (oM 97)] ∧ RI b58_1 (.seq (r58_13) (.seq (.cond (.tmp 41) (.skip) (.exit 2)) (.seq (.block 3 (.seq (r58_14) (.seq (.seq (r58_15) (.cond (.tmp 47) (.exit 3) (.skip))) (.seq (r58_16) (.seq (r58_17) (.seq (.seq (r58_18) (.block 4 (.loop b58_2))) (.seq (r58_29) (r58_30)))))))) (r58_31)))) ∧ KeepS T 58 b58_1 [8, 11, 38, 39, 40] ∧ RR r58_32 [oo 98 (oM 11), oo 99 (.call ⟨.value (.func 153), #[.tmp 98, .func 154], #[225, 234]⟩), oo 4 (oG 99), oo 5 (oi 0)] ∧ FinF T 58 [.tmp 4, .tmp 5] false := by refine ⟨runR T ?_, runR T ?_, runR T ?_, runR T ?_, runR T ?_, runR T ?_, runR T ?_, runR T ?_, runR T ?_, runR T ?_, runR T ?_, runIc T ?_, keepS T ?_, runR T ?_, runR T ?_, runR T ?_, runR T ?_, runR T ?_, runR T ?_, runR T ?_, runR T ?_, runR T ?_, runR T ?_, runR T ?_, runR T ?_, runD T (id := 24) ?_ ?_, runR T ?_, runR T ?_, runR T ?_, runR T ?_, runIc T ?_, keepS T ?_, runR T ?_, runIc T ?_, keepS T ?_, runR T ?_, runR T ?_, runR T ?_, runIc T ?_, keepS T ?_, runR T ?_, finI T (F := Tryz.f58) ?_ ?_ ?_⟩ <;> kernel_rfl
@[go_sem] theorem fct183 : Fct T 183 false (some medV) false := ⟨by kernel_rfl, by kernel_rfl, by kernel_rfl⟩
@[go_sem] theorem res183 : Res1 T 183 3 := res1 T (F := Tryz.f183) (by kernel_rfl) (by kernel_rfl)
@[go_sem] theorem fr213 : Fct T 213 false (some (den2 FaT.T 213)) false ∧ Res1 T 213 28 := by refine ⟨⟨?_, ?_, ?_⟩, res1 T (F := Tryz.f213) ?_ ?_⟩ <;> kernel_rfl
@[go_sem] theorem fr214 : Fct T 214 false (some (den2 FaT.T 214)) false ∧ Res1 T 214 3 := by refine ⟨⟨?_, ?_, ?_⟩, res1 T (F := Tryz.f214) ?_ ?_⟩ <;> kernel_rfl
def r151_0 := nv 2 Tryz.f151
def r151_1 := nv 6 Tryz.f151
def r151_2 := nv 14 Tryz.f151
def r151_3 := nv 30 Tryz.f151
def r151_4 := nv 124 Tryz.f151
def b151_0 := nv 500 Tryz.f151
def r151_5 := nv 1000 Tryz.f151
def r151_6 := nv 16024 Tryz.f151
def r151_7 := nv 32050 Tryz.f151
def r151_8 := nv 64102 Tryz.f151
def r151_9 := nv 4007 Tryz.f151
def r151_10 := nv 126 Tryz.f151
theorem ent151 : Ent T 151 41 (.seq (r151_0) (.seq (r151_1) (.seq (r151_2) (.seq (r151_3) (.seq (.seq (r151_4) (.block 0 (.loop b151_0))) (.seq (r151_10) (.ret))))))) := entI T (F := Tryz.f151) (by kernel_rfl) (by kernel_rfl) (by kernel_rfl)
@[go_sem ↓] theorem run151 : RR r151_0 [oo 2 (.box 85 (.tmp 0)), oo 4 on] ∧ RR r151_1 [oo 10 (oF 85 2 2), oo 11 (oL 80 10), oo 12 (.call ⟨.value (.func 213), #[.tmp 11, .func 214], #[80, 235]⟩), oo 5 (oG 12)] ∧ RR r151_2 [oo 13 (oM 5), oo 14 (o1 183 13 28), oo 6 (oG 14)] ∧ RR r151_3 [oo 7 on] ∧ RR r151_4 [oo 15 (oM 5), oo 16 (oN 15 28), oo 17 (.move (.const (.int .i64 0)))] ∧ RR r151_5 [oo 18 (oB .lss 3 17 16)] ∧ RR r151_6 [oo 19 (oM 17), oo 20 (oI 28 15 17), oo 21 (oL 3 20), oo 8 (oG 19), oo 9 (oG 21)] ∧ RR r151_7 [oo 22 (oM 9), oo 23 (oM 6), oo 24 (oM 1), oo 25 (oB .add 3 23 24), oo 26 (oB .geq 3 22 25)] ∧ RD r151_8 151 [oo 27 (oM 7), oo 28 (oM 8), oo 29 (oF 85 2 0), oo 30 (oL 3 29), oo 31 (oB .rem 3 28 30), oo 32 (oM 8), oo 33 (oF 85 2 0), oo 34 (oL 3 33), oo 35 (oB .quo 3 32 34), oo 36 (.build 100 #[(0, .tmp 31), (1, .tmp 35)]), oo 37 (oS 48 36), oo 38 (oA 27 37 48), oo 7 (oG 38)] [(0, 1), (0, 2), (1, 2), (0, 3), (1, 3), (0, 4), (0, 5), (1, 5), (2, 5), (3, 5), (4, 5), (0, 6), (1, 6), (2, 6), (3, 6), (4, 6), (5, 6), (0, 7), (1, 7), (2, 7), (3, 7), (4, 7), (5, 7), (0, 8), (1, 8), (2, 8), (3, 8), (4, 8), (0, 9), (0, 10)] ∧ RR r151_9 [oo 39 (oC .add 3 17 1), oo 17 (oM 39)] ∧ RI b151_0 (.seq (r151_5) (.seq (.cond (.tmp 18) (.skip) (.exit 0)) (.seq (.block 1 (.seq (r151_6) (.seq (r151_7) (.cond (.tmp 26) (r151_8) (.skip))))) (r151_9)))) ∧ KeepS T 151 b151_0 [1, 2, 6, 7, 15, 16, 17] ∧ RR r151_10 [oo 40 (oM 7), oo 4 (oG 40)] ∧ FinF T 151 [.tmp 4] false := by refine ⟨runR T ?_, runR T ?_, runR T ?_, runR T ?_, runR T ?_, runR T ?_, runR T ?_, runR T ?_, runD T (id := 8) ?_ ?_, runR T ?_, runIc T ?_, keepS T ?_, runR T ?_, finI T (F := Tryz.f151) ?_ ?_ ?_⟩ <;> kernel_rfl
end Go.Den.FaU
end
