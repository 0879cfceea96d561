import Derived.Test.YtifljcjddphpjaaGreatDoorFaTab
import Derived.Test.YtifljcjddphpjaaGreatDoorZS
import Derived.Test.YtifljcjddphpjaaGreatDoorFaTi
set_option linter.all false
set_option maxHeartbeats 8000000
set_option maxRecDepth 100000
noncomputable section
namespace Go.Den.FaT
open Go Go.Proofs Go.Den
abbrev RR (c : Code) (os : List SO) : Prop := RunR T c os
abbrev RD (c : Code) (f : Nat) (os : List SO) (ps : List (Nat × Nat)) : Prop := RunD T c f os ps
abbrev RI (r c : Code) : Prop := RunIc T r c
@[go_sem] theorem fr16 : Fct T 16 false none false ∧ Res1 T 16 4 := by refine ⟨⟨?_, ?_, ?_⟩, res1 T (F := Tryz.f16) ?_ ?_⟩ <;> kernel_rfl
@[go_sem] theorem fr39 : Fct T 39 false none false ∧ Res1 T 39 3 := by refine ⟨⟨?_, ?_, ?_⟩, res1 T (F := Tryz.f39) ?_ ?_⟩ <;> kernel_rfl
@[go_sem] theorem fr108 : Fct T 108 false none false ∧ Res1 T 108 3 := by refine ⟨⟨?_, ?_, ?_⟩, res1 T (F := Tryz.f108) ?_ ?_⟩ <;> kernel_rfl
@[go_sem] theorem fr112 : Fct T 112 false none false ∧ Res1 T 112 29 := by refine ⟨⟨?_, ?_, ?_⟩, res1 T (F := Tryz.f112) ?_ ?_⟩ <;> kernel_rfl
@[go_sem] theorem fr114 : Fct T 114 false none false ∧ Res1 T 114 29 := by refine ⟨⟨?_, ?_, ?_⟩, res1 T (F := Tryz.f114) ?_ ?_⟩ <;> kernel_rfl
def r39_0 := nv 2 Tryz.f39
def r39_1 := nv 12 Tryz.f39
def r39_2 := nv 52 Tryz.f39
def r39_3 := nv 14 Tryz.f39
theorem ent39 : Ent T 39 7 (.seq (r39_0) (.seq (.seq (r39_1) (.cond (.tmp 5) (.seq (r39_2) (.ret)) (.skip))) (.seq (r39_3) (.ret)))) := entI T (F := Tryz.f39) (by kernel_rfl) (by kernel_rfl) (by kernel_rfl)
@[go_sem ↓] theorem run39 : RR r39_0 [oo 4 (oi 0)] ∧ RR r39_1 [oo 5 (oM 0)] ∧ RR r39_2 [oo 6 (oM 1), oo 4 (oG 6)] ∧ RR r39_3 [oo 4 (oi 0)] ∧ FinF T 39 [.tmp 4] false := by refine ⟨runR T ?_, runR T ?_, runR T ?_, runR T ?_, finI T (F := Tryz.f39) ?_ ?_ ?_⟩ <;> kernel_rfl
@[go_sem] theorem fr90 : Fct T 90 false none false ∧ Res1 T 90 3 := by refine ⟨⟨?_, ?_, ?_⟩, res1 T (F := Tryz.f90) ?_ ?_⟩ <;> kernel_rfl
def r90_0 := nv 2 Tryz.f90
def r90_1 := nv 6 Tryz.f90
theorem ent90 : Ent T 90 16 (.seq (r90_0) (.seq (r90_1) (.ret))) := entI T (F := Tryz.f90) (by kernel_rfl) (by kernel_rfl) (by kernel_rfl)
@[go_sem ↓] theorem run90 : RR r90_0 [oo 6 (oi 0)] ∧ RR r90_1 [oo 7 (oM 0), oo 8 (oM 1), oo 9 (oB .lss 3 7 8), oo 10 (oM 9), of 11 (oM 0) 10, of 12 (oM 2) 10, of 13 (oB .gtr 3 11 12) 10, oo 14 (.pick (.tmp 10) (.const (.bool true)) (.tmp 13)), oo 15 (.call ⟨.value (.func 39), #[.tmp 14, .const (.int .i64 3)], #[4, 3]⟩), oo 6 (oG 15)] ∧ FinF T 90 [.tmp 6] false := by refine ⟨runR T ?_, runR T ?_, finI T (F := Tryz.f90) ?_ ?_ ?_⟩ <;> kernel_rfl
@[go_sem] theorem fct183 : Fct T 183 false none false := ⟨by kernel_rfl, by kernel_rfl, by kernel_rfl⟩
@[go_sem] theorem res183 : Res1 T 183 3 := res1 T (F := Tryz.f183) (by kernel_rfl) (by kernel_rfl)
def r108_0 := nv 2 Tryz.f108
def r108_1 := nv 12 Tryz.f108
def b108_0 := nv 52 Tryz.f108
def r108_2 := nv 208 Tryz.f108
def r108_4 := nv 840 Tryz.f108
def r108_5 := nv 3364 Tryz.f108
def r108_3 := nv 211 Tryz.f108
def r108_6 := nv 14 Tryz.f108
theorem ent108 : Ent T 108 19 (.seq (r108_0) (.seq (.seq (r108_1) (.block 0 (.loop b108_0))) (.seq (r108_6) (.ret)))) := entI T (F := Tryz.f108) (by kernel_rfl) (by kernel_rfl) (by kernel_rfl)
@[go_sem ↓] theorem run108 : RR r108_0 [oo 2 (oi 0)] ∧ RR r108_1 [oo 3 (oi 0)] ∧ RR r108_2 [oo 4 (oM 3), oo 5 (oM 0), oo 6 (oN 5 28), oo 7 (oB .lss 3 4 6)] ∧ RR r108_4 [oo 10 (oM 0), oo 11 (oM 3), oo 12 (oI 28 10 11), oo 13 (oL 3 12), oo 14 (oC .neq 3 13 0)] ∧ RR r108_5 [oo 15 (oM 0), oo 16 (oM 3), oo 17 (oI 28 15 16), oo 18 (oL 3 17), oo 2 (oG 18)] ∧ RR r108_3 [oo 8 (oM 3), oo 9 (oC .add 3 8 1), oo 3 (oG 9)] ∧ RI b108_0 (.seq (.seq (r108_2) (.cond (.tmp 7) (.skip) (.exit 0))) (.seq (.block 1 (.seq (r108_4) (.cond (.tmp 14) (.seq (r108_5) (.ret)) (.skip)))) (r108_3))) ∧ KeepS T 108 b108_0 [0, 3] ∧ RR r108_6 [oo 2 (oi 0)] ∧ FinF T 108 [.tmp 2] false := by refine ⟨runR T ?_, runR T ?_, runR T ?_, runR T ?_, runR T ?_, runR T ?_, runIc T ?_, keepS T ?_, runR T ?_, finI T (F := Tryz.f108) ?_ ?_ ?_⟩ <;> kernel_rfl
@[go_sem] theorem fr115 : Fct T 115 false none false ∧ Res1 T 115 29 := by refine ⟨⟨?_, ?_, ?_⟩, res1 T (F := Tryz.f115) ?_ ?_⟩ <;> kernel_rfl
def r112_0 := nv 2 Tryz.f112
def r112_1 := nv 6 Tryz.f112
theorem ent112 : Ent T 112 14 (.seq (r112_0) (.seq (r112_1) (.ret))) := entI T (F := Tryz.f112) (by kernel_rfl) (by kernel_rfl) (by kernel_rfl)
@[go_sem ↓] theorem run112 : RR r112_0 [oo 4 (oi 0)] ∧ RR r112_1 [oo 5 (oM 0), oo 6 (oC .eql 3 5 0), oo 7 (.call ⟨.value (.func 115), #[.tmp 6, .const (.int .i64 12)], #[4, 29]⟩), oo 8 (oM 0), oo 9 (oM 1), oo 10 (oB .gtr 3 8 9), oo 11 (.call ⟨.value (.func 115), #[.tmp 10, .const (.int .i64 5)], #[4, 29]⟩), oo 12 (.buildSlice 187 2 #[(0, .tmp 7), (1, .tmp 11)]), oo 13 (o1 114 12 187), oo 4 (oG 13)] ∧ FinF T 112 [.tmp 4] false := by refine ⟨runR T ?_, runR T ?_, finI T (F := Tryz.f112) ?_ ?_ ?_⟩ <;> kernel_rfl
def r114_0 := nv 2 Tryz.f114
def r114_1 := nv 12 Tryz.f114
def b114_0 := nv 52 Tryz.f114
def r114_2 := nv 104 Tryz.f114
def r114_3 := nv 1688 Tryz.f114
def r114_4 := nv 3378 Tryz.f114
def r114_5 := nv 13516 Tryz.f114
def r114_6 := nv 423 Tryz.f114
def r114_7 := nv 14 Tryz.f114
theorem ent114 : Ent T 114 15 (.seq (r114_0) (.seq (.seq (r114_1) (.block 0 (.loop b114_0))) (.seq (r114_7) (.ret)))) := entI T (F := Tryz.f114) (by kernel_rfl) (by kernel_rfl) (by kernel_rfl)
@[go_sem ↓] theorem run114 : RR r114_0 [oo 2 (oi 0)] ∧ RR r114_1 [oo 5 (oM 0), oo 6 (oN 5 187), oo 7 (.move (.const (.int .i64 0)))] ∧ RR r114_2 [oo 8 (oB .lss 3 7 6)] ∧ RR r114_3 [oo 9 (oI 187 5 7), oo 10 (oL 29 9), oo 4 (oG 10)] ∧ RR r114_4 [oo 11 (oM 4), oo 12 (oC .neq 29 11 0)] ∧ RR r114_5 [oo 13 (oM 4), oo 2 (oG 13)] ∧ RR r114_6 [oo 14 (oC .add 3 7 1), oo 7 (oM 14)] ∧ RI b114_0 (.seq (r114_2) (.seq (.cond (.tmp 8) (.skip) (.exit 0)) (.seq (.block 1 (.seq (r114_3) (.seq (r114_4) (.cond (.tmp 12) (.seq (r114_5) (.ret)) (.skip))))) (r114_6)))) ∧ KeepS T 114 b114_0 [5, 6, 7] ∧ RR r114_7 [oo 2 (oi 0)] ∧ FinF T 114 [.tmp 2] false := by refine ⟨runR T ?_, runR T ?_, runR T ?_, runR T ?_, runR T ?_, runR T ?_, runR T ?_, runIc T ?_, keepS T ?_, runR T ?_, finI T (F := Tryz.f114) ?_ ?_ ?_⟩ <;> kernel_rfl
def r115_0 := nv 2 Tryz.f115
def r115_1 := nv 12 Tryz.f115
def r115_2 := nv 52 Tryz.f115
def r115_3 := nv 14 Tryz.f115
theorem ent115 : Ent T 115 7 (.seq (r115_0) (.seq (.seq (r115_1) (.cond (.tmp 5) (.seq (r115_2) (.ret)) (.skip))) (.seq (r115_3) (.ret)))) := entI T (F := Tryz.f115) (by kernel_rfl) (by kernel_rfl) (by kernel_rfl)
@[go_sem ↓] theorem run115 : RR r115_0 [oo 4 (oi 0)] ∧ RR r115_1 [oo 5 (oM 0)] ∧ RR r115_2 [oo 6 (oM 1), oo 4 (oG 6)] ∧ RR r115_3 [oo 4 (oi 0)] ∧ FinF T 115 [.tmp 4] false := by refine ⟨runR T ?_, runR T ?_, runR T ?_, runR T ?_, finI T (F := Tryz.f115) ?_ ?_ ?_⟩ <;> kernel_rfl
@[go_sem] theorem fr137 : Fct T 137 false none false ∧ Res1 T 137 29 := by refine ⟨⟨?_, ?_, ?_⟩, res1 T (F := Tryz.f137) ?_ ?_⟩ <;> kernel_rfl
def r137_0 := nv 2 Tryz.f137
def r137_1 := nv 6 Tryz.f137
theorem ent137 : Ent T 137 16 (.seq (r137_0) (.seq (r137_1) (.ret))) := entI T (F := Tryz.f137) (by kernel_rfl) (by kernel_rfl) (by kernel_rfl)
@[go_sem ↓] theorem run137 : RR r137_0 [oo 6 (oi 0)] ∧ RR r137_1 [oo 7 (oM 0), oo 8 (oM 1), oo 9 (oB .lss 3 7 8), oo 10 (oM 9), of 11 (oM 0) 10, of 12 (oM 2) 10, of 13 (oB .gtr 3 11 12) 10, oo 14 (.pick (.tmp 10) (.const (.bool true)) (.tmp 13)), oo 15 (.call ⟨.value (.func 115), #[.tmp 14, .const (.int .i64 3)], #[4, 29]⟩), oo 6 (oG 15)] ∧ FinF T 137 [.tmp 6] false := by refine ⟨runR T ?_, runR T ?_, finI T (F := Tryz.f137) ?_ ?_ ?_⟩ <;> kernel_rfl
@[go_sem] theorem fct229 : Fct T 229 true none false := ⟨by kernel_rfl, by kernel_rfl, by kernel_rfl⟩
@[go_sem] theorem res229 : Res0 T 229 := res0 T (F := Tryz.f229) (by kernel_rfl) (by kernel_rfl)
def r183_0 := nv 2 Tryz.f183
def r183_1 := nv 6 Tryz.f183
def r183_2 := nv 14 Tryz.f183
def r183_3 := nv 30 Tryz.f183
def r183_4 := nv 62 Tryz.f183
theorem ent183 : Ent T 183 19 (.seq (r183_0) (.seq (r183_1) (.seq (r183_2) (.seq (r183_3) (.seq (r183_4) (.ret)))))) := entI T (F := Tryz.f183) (by kernel_rfl) (by kernel_rfl) (by kernel_rfl)
@[go_sem ↓] theorem run183 : RR r183_0 [oo 2 (oi 0)] ∧ RR r183_1 [oo 4 (oM 0), oo 5 (oN 4 28), oo 6 (.makeSlice 28 (.tmp 5) (.tmp 5)), oo 3 (oG 6)] ∧ RR r183_2 [oo 7 (oM 3), oo 8 (oM 0), oo 9 (.call ⟨.builtin .copy, #[.tmp 7, .tmp 8], #[28, 28]⟩)] ∧ RR r183_3 [oo 10 (oM 3), oo 11 (o1 229 10 28)] ∧ RR r183_4 [oo 12 (oM 3), oo 13 (oM 3), oo 14 (oN 13 28), oo 15 (oC .sub 3 14 1), oo 16 (oC .quo 3 15 2), oo 17 (oI 28 12 16), oo 18 (oL 3 17), oo 2 (oG 18)] ∧ FinF T 183 [.tmp 2] false := by refine ⟨runR T ?_, runR T ?_, runR T ?_, runR T ?_, runR T ?_, finI T (F := Tryz.f183) ?_ ?_ ?_⟩ <;> kernel_rfl
@[go_sem] theorem fr55 : Fct T 55 false none false ∧ Res1 T 55 4 := by refine ⟨⟨?_, ?_, ?_⟩, res1 T (F := Tryz.f55) ?_ ?_⟩ <;> kernel_rfl
def r55_0 := nv 2 Tryz.f55
def r55_1 := nv 6 Tryz.f55
theorem ent55 : Ent T 55 7 (.seq (r55_0) (.seq (r55_1) (.ret))) := entI T (F := Tryz.f55) (by kernel_rfl) (by kernel_rfl) (by kernel_rfl)
@[go_sem ↓] theorem run55 : RR r55_0 [oo 1 (.box 82 (.tmp 0)), oo 2 (.assign (.const (.bool false)))] ∧ RR r55_1 [oo 3 (oF 82 1 2), oo 4 (oL 80 3), oo 5 (oN 4 80), oo 6 (oC .leq 3 5 64), oo 2 (oG 6)] ∧ FinF T 55 [.tmp 2] false := by refine ⟨runR T ?_, runR T ?_, finI T (F := Tryz.f55) ?_ ?_ ?_⟩ <;> kernel_rfl
@[go_sem] theorem fr56 : Fct T 56 false none false ∧ Res2 T 56 48 29 [] := by refine ⟨⟨?_, ?_, ?_⟩, res2 T (F := Tryz.f56) ?_ ?_⟩ <;> kernel_rfl
@[go_sem] theorem fr150 : Fct T 150 false none false ∧ Res1 T 150 29 := by refine ⟨⟨?_, ?_, ?_⟩, res1 T (F := Tryz.f150) ?_ ?_⟩ <;> kernel_rfl
@[go_sem] theorem fr151 : Fct T 151 false none false ∧ Res1 T 151 48 := by refine ⟨⟨?_, ?_, ?_⟩, res1 T (F := Tryz.f151) ?_ ?_⟩ <;> kernel_rfl
def r56_0 := nv 2 Tryz.f56
def r56_1 := nv 12 Tryz.f56
def r56_2 := nv 26 Tryz.f56
def r56_3 := nv 108 Tryz.f56
def r56_4 := nv 14 Tryz.f56
theorem ent56 : Ent T 56 16 (.seq (r56_0) (.seq (.seq (r56_1) (.seq (r56_2) (.cond (.tmp 11) (.seq (r56_3) (.ret)) (.skip)))) (.seq (r56_4) (.ret)))) := entI T (F := Tryz.f56) (by kernel_rfl) (by kernel_rfl) (by kernel_rfl)
@[go_sem ↓] theorem run56 : RR r56_0 [oo 2 (.box 85 (.tmp 0)), oo 4 on, oo 5 (oi 0)] ∧ RR r56_1 [oo 7 (oL 85 2), oo 8 (oM 1), oo 9 (o2 150 7 8 85 3), oo 6 (oG 9)] ∧ RR r56_2 [oo 10 (oM 6), oo 11 (oC .neq 29 10 0)] ∧ RR r56_3 [oo 12 (oM 6), oo 4 on, oo 5 (oG 12)] ∧ RR r56_4 [oo 13 (oL 85 2), oo 14 (oM 1), oo 15 (o2 151 13 14 85 3), oo 4 (oG 15), oo 5 (oi 0)] ∧ FinF T 56 [.tmp 4, .tmp 5] false := by refine ⟨runR T ?_, runR T ?_, runR T ?_, runR T ?_, runR T ?_, finI T (F := Tryz.f56) ?_ ?_ ?_⟩ <;> kernel_rfl
@[go_sem] theorem fr57 : Fct T 57 false none false ∧ Res1 T 57 85 := by refine ⟨⟨?_, ?_, ?_⟩, res1 T (F := Tryz.f57) ?_ ?_⟩ <;> kernel_rfl
def r57_0 := nv 2 Tryz.f57
def r57_1 := nv 6 Tryz.f57
theorem ent57 : Ent T 57 12 (.seq (r57_0) (.seq (r57_1) (.ret))) := entI T (F := Tryz.f57) (by kernel_rfl) (by kernel_rfl) (by kernel_rfl)
@[go_sem ↓] theorem run57 : RR r57_0 [oo 1 (.box 82 (.tmp 0)), oo 2 (.alloc 85)] ∧ RD r57_1 57 [oo 3 (oF 82 1 0), oo 4 (oL 3 3), oo 5 (oF 82 1 1), oo 6 (oL 3 5), oo 7 (.buildSlice 80 0 #[]), oo 8 (oF 82 1 2), oo 9 (oL 80 8), oo 10 (oA 7 9 80), oo 11 (.build 85 #[(0, .tmp 4), (1, .tmp 6), (2, .tmp 10)]), ow 85 2 11] [(0, 2), (1, 2), (0, 3), (1, 3), (0, 4), (1, 4), (2, 4), (3, 4), (0, 5), (1, 5), (2, 5), (3, 5), (4, 5), (0, 6), (1, 6), (2, 6), (3, 6), (4, 6), (0, 7), (1, 7), (2, 7), (3, 7)] ∧ FinF T 57 [.cell 2 85] false := by refine ⟨runR T ?_, runD T (id := 1) ?_ ?_, finI T (F := Tryz.f57) ?_ ?_ ?_⟩ <;> kernel_rfl
@[go_sem] theorem fr58 : Fct T 58 false none false ∧ Res2 T 58 87 29 [] := by refine ⟨⟨?_, ?_, ?_⟩, res2 T (F := Tryz.f58) ?_ ?_⟩ <;> kernel_rfl
@[go_sem] theorem fr152 : Fct T 152 false none false ∧ Res1 T 152 100 := by refine ⟨⟨?_, ?_, ?_⟩, res1 T (F := Tryz.f152) ?_ ?_⟩ <;> kernel_rfl
@[go_sem] theorem fr153 : Fct T 153 false none false ∧ Res1 T 153 87 := by refine ⟨⟨?_, ?_, ?_⟩, res1 T (F := Tryz.f153) ?_ ?_⟩ <;> kernel_rfl
@[go_sem] theorem fr154 : Fct T 154 false none false ∧ Res1 T 154 153 := by refine ⟨⟨?_, ?_, ?_⟩, res1 T (F := Tryz.f154) ?_ ?_⟩ <;> kernel_rfl
def r58_0 := nv 2 Tryz.f58
def r58_1 := nv 12 Tryz.f58
def r58_2 := nv 26 Tryz.f58
def r58_3 := nv 108 Tryz.f58
def r58_4 := nv 14 Tryz.f58
def r58_5 := nv 30 Tryz.f58
def r58_6 := nv 124 Tryz.f58
def b58_0 := nv 500 Tryz.f58
def r58_7 := nv 1000 Tryz.f58
def r58_8 := nv 16024 Tryz.f58
def r58_9 := nv 16025 Tryz.f58
def r58_10 := nv 4007 Tryz.f58
def r58_11 := nv 126 Tryz.f58
def r58_12 := nv 508 Tryz.f58
def b58_1 := nv 2036 Tryz.f58
def r58_13 := nv 4072 Tryz.f58
def r58_14 := nv 65176 Tryz.f58
def r58_15 := nv 260708 Tryz.f58
def r58_16 := nv 260710 Tryz.f58
def r58_17 := nv 521422 Tryz.f58
def r58_18 := nv 2085692 Tryz.f58
def b58_2 := nv 8342772 Tryz.f58
def r58_19 := nv 33371088 Tryz.f58
def r58_21 := nv 133484360 Tryz.f58
def b58_3 := nv 533937444 Tryz.f58
def r58_22 := nv 1067874888 Tryz.f58
def r58_23 := nv 17085998232 Tryz.f58
def r58_24 := nv 34171996466 Tryz.f58
def r58_25 := nv 68343992934 Tryz.f58
def r58_26 := nv 273375971740 Tryz.f58
def r58_27 := nv 273375971741 Tryz.f58
def r58_28 := nv 4271499559 Tryz.f58
def r58_20 := nv 33371091 Tryz.f58
def r58_29 := nv 2085694 Tryz.f58
def r58_30 := nv 2085695 Tryz.f58
def r58_31 := nv 16295 Tryz.f58
def r58_32 := nv 510 Tryz.f58
theorem ent58 : Ent T 58 100 (.seq (r58_0) (.seq (.seq (r58_1) (.seq (r58_2) (.cond (.tmp 23) (.seq (r58_3) (.ret)) (.skip)))) (.seq (r58_4) (.seq (r58_5) (.seq (.seq (r58_6) (.block 0 (.loop b58_0))) (.seq (r58_11) (.seq (.seq (r58_12) (.block 2 (.loop b58_1))) (.seq (r58_32) (.ret))))))))) := entI T (F := Tryz.f58) (by kernel_rfl) (by kernel_rfl) (by kernel_rfl)
@[go_sem ↓] theorem run58 : RR r58_0 [oo 2 (.box 85 (.tmp 0)), oo 4 on, oo 5 (oi 0)] ∧ RR r58_1 [oo 19 (oL 85 2), oo 20 (oM 1), oo 21 (o2 150 19 20 85 3), oo 6 (oG 21)] ∧ RR r58_2 [oo 22 (oM 6), oo 23 (oC .neq 29 22 0)] ∧ RR r58_3 [oo 24 (oM 6), oo 4 on, oo 5 (oG 24)] ∧ RR r58_4 [oo 25 (oL 85 2), oo 26 (oM 1), oo 27 (o2 151 25 26 85 3), oo 7 (oG 27)] ∧ RR r58_5 [oo 28 (.makeMap 224 none), oo 8 (oG 28)] ∧ RR r58_6 [oo 29 (oM 7), oo 30 (oN 29 48), oo 31 (.move (.const (.int .i64 0)))] ∧ RR r58_7 [oo 32 (oB .lss 3 31 30)] ∧ RR r58_8 [oo 33 (oI 48 29 31), oo 34 (oL 100 33), oo 10 (.alloc 100), ow 100 10 34] ∧ RR r58_9 [oo 35 (oM 8), oo 36 (oL 100 10), ⟨none, .mapUpdate 224 (.tmp 35) (.tmp 36) (.const (.bool true)), none⟩] ∧ RR r58_10 [oo 37 (oC .add 3 31 1), oo 31 (oM 37)] ∧ RI b58_0 (.seq (r58_7) (.seq (.cond (.tmp 32) (.skip) (.exit 0)) (.seq (.block 1 (.seq (r58_8) (r58_9))) (r58_10)))) ∧ KeepS T 58 b58_0 [7, 8, 29, 30, 31] ∧ RR r58_11 [oo 11 on] ∧ RR r58_12 [oo 38 (oM 7), oo 39 (oN 38 48), oo 40 (.move (.const (.int .i64 0)))] ∧ RR r58_13 [oo 41 (oB .lss 3 40 39)] ∧ RR r58_14 [oo 42 (oI 48 38 40), oo 43 (oL 100 42), oo 13 (.alloc 100), ow 100 13 43] ∧ RR r58_15 [oo 44 (oM 8), oo 45 (oL 100 13), oo 46 (.lookup 224 (.tmp 44) (.tmp 45) false), oo 47 (.unOp .not 4 (.tmp 46))] ∧ RR r58_16 [oo 48 (oM 8), oo 49 (oL 100 13), ⟨none, .call ⟨.builtin .delete, #[.tmp 48, .tmp 49], #[224, 100]⟩, none⟩] ∧ RR r58_17 [oo 50 (oL 100 13), oo 51 (.build 153 #[(0, .tmp 50)]), oo 52 (oL 100 13), oo 53 (oS 48 52), oo 54 (.build 227 #[(0, .tmp 51), (1, .tmp 53)]), oo 14 (.alloc 227), ow 227 14 54] ∧ RR r58_18 [oo 15 (oi 0)] ∧ RR r58_19 [oo 55 (oM 15), oo 56 (oF 227 14 1), oo 57 (oL 48 56), oo 58 (oN 57 48), oo 59 (oB .lss 3 55 58)] ∧ RR r58_21 [oo 62 (.load 231 (.global 0)), oo 63 (.move (.const (.int .i64 0)))] ∧ RR r58_22 [oo 64 (oC .lss 3 63 4)] ∧ RR r58_23 [oo 65 (.index 231 (.tmp 62) (.tmp 63)), oo 17 (.alloc 230), ow 230 17 65] ∧ RD r58_24 58 [oo 66 (oF 227 14 1), oo 67 (oL 48 66), oo 68 (oM 15), oo 69 (oI 48 67 68), oo 70 (oL 100 69), oo 71 (oF 230 17 1), oo 72 (oL 228 71), oo 73 (.build 100 #[(0, .const (.int .i64 1))]), oo 74 (.call ⟨.value (.tmp 72), #[.tmp 73], #[100]⟩), oo 75 (o2 152 70 74 100 100), oo 18 (.alloc 100), ow 100 18 75] [(0, 2), (1, 2), (0, 5), (1, 5), (2, 5), (3, 5), (4, 5), (0, 6), (1, 6), (2, 6), (3, 6), (4, 6), (0, 7), (1, 7), (2, 7), (3, 7), (4, 7), (5, 7), (6, 7), (0, 8), (1, 8), (2, 8), (3, 8), (4, 8), (0, 10), (1, 10), (2, 10), (3, 10), (4, 10), (5, 10), (6, 10), (7, 10), (8, 10), (9, 10)] ∧ RR r58_25 [oo 76 (oM 8), oo 77 (oL 100 18), oo 78 (.lookup 224 (.tmp 76) (.tmp 77) false)] ∧ RR r58_26 [oo 79 (oM 8), oo 80 (oL 100 18), ⟨none, .call ⟨.builtin .delete, #[.tmp 79, .tmp 80], #[224, 100]⟩, none⟩] ∧ RR r58_27 [oo 81 (oF 227 14 1), oo 82 (oL 48 81), oo 83 (oL 100 18), oo 84 (oS 48 83), oo 85 (oA 82 84 48), oo 86 (oF 227 14 1), ow 48 86 85] ∧ RR r58_28 [oo 87 (oC .add 3 63 1), oo 63 (oM 87)] ∧ RI b58_3 (.seq (r58_22) (.seq (.cond (.tmp 64) (.skip) (.exit 6)) (.seq (.block 7 (.seq (r58_23) (.seq (r58_24) (.seq (r58_25) (.cond (.tmp 78) (.seq (r58_26) (r58_27)) (.skip)))))) (r58_28)))) ∧ KeepS T 58 b58_3 [8, 11, 14, 15, 38, 39, 40, 62, 63] ∧ RR r58_20 [oo 60 (oM 15), oo 61 (oC .add 3 60 1), oo 15 (oG 61)] ∧ RI b58_2 (.seq (.seq (r58_19) (.cond (.tmp 59) (.skip) (.exit 4))) (.seq (.block 5 (.seq (r58_21) (.block 6 (.loop b58_3)))) (r58_20))) ∧ KeepS T 58 b58_2 [8, 11, 14, 15, 38, 39, 40] ∧ RR r58_29 [oo 88 (oF 227 14 1), oo 89 (oL 48 88), oo 90 (oN 89 48), oo 91 (oF 227 14 0), oo 92 (oF 153 91 1), ow 3 92 90] ∧ RR r58_30 [oo 93 (oM 11), oo 94 (oL 227 14), oo 95 (oS 225 94), oo 96 (oA 93 95 225), oo 11 (oG 96)] ∧ RR r58_31 [oo 97 (oC .add 3 40 1), oo 40 (oM 97)] ∧ RI b58_1 (.seq (r58_13) (.seq (.cond (.tmp 41) (.skip) (.exit 2)) (.seq (.block 3 (.seq (r58_14) (.seq (.seq (r58_15) (.cond (.tmp 47) (.exit 3) (.skip))) (.seq (r58_16) (.seq (r58_17) (.seq (.seq (r58_18) (.block 4 (.loop b58_2))) (.seq (r58_29) (r58_30)))))))) (r58_31)))) ∧ KeepS T 58 b58_1 [8, 11, 38, 39, 40] ∧ RR r58_32 [oo 98 (oM 11), oo 99 (.call ⟨.value (.func 153), #[.tmp 98, .func 154], #[225, 234]⟩), oo 4 (oG 99), oo 5 (oi 0)] ∧ FinF T 58 [.tmp 4, .tmp 5] false := by refine ⟨runR T ?_, runR T ?_, runR T ?_, runR T ?_, runR T ?_, runR T ?_, runR T ?_, runR T ?_, runR T ?_, runR T ?_, runR T ?_, runIc T ?_, keepS T ?_, runR T ?_, runR T ?_, runR T ?_, runR T ?_, runR T ?_, runR T ?_, runR T ?_, runR T ?_, runR T ?_, runR T ?_, runR T ?_, runR T ?_, runD T (id := 24) ?_ ?_, runR T ?_, runR T ?_, runR T ?_, runR T ?_, runIc T ?_, keepS T ?_, runR T ?_, runIc T ?_, keepS T ?_, runR T ?_, runR T ?_, runR T ?_, runIc T ?_, keepS T ?_, runR T ?_, finI T (F := Tryz.f58) ?_ ?_ ?_⟩ <;> kernel_rfl
@[go_sem] theorem fr59 : Fct T 59 false none false ∧ Res1 T 59 3 := by refine ⟨⟨?_, ?_, ?_⟩, res1 T (F := Tryz.f59) ?_ ?_⟩ <;> kernel_rfl
@[go_sem] theorem fr155 : Fct T 155 false none false ∧ Res1 T 155 3 := by refine ⟨⟨?_, ?_, ?_⟩, res1 T (F := Tryz.f155) ?_ ?_⟩ <;> kernel_rfl
def r59_0 := nv 2 Tryz.f59
def r59_1 := nv 12 Tryz.f59
def r59_2 := nv 26 Tryz.f59
def r59_3 := nv 108 Tryz.f59
def r59_4 := nv 28 Tryz.f59
def r59_5 := nv 116 Tryz.f59
def r59_6 := nv 60 Tryz.f59
def b59_0 := nv 244 Tryz.f59
def r59_7 := nv 976 Tryz.f59
def r59_9 := nv 3912 Tryz.f59
def r59_10 := nv 7826 Tryz.f59
def r59_11 := nv 31308 Tryz.f59
def r59_8 := nv 979 Tryz.f59
def r59_12 := nv 62 Tryz.f59
theorem ent59 : Ent T 59 42 (.seq (r59_0) (.seq (.seq (r59_1) (.seq (r59_2) (.cond (.tmp 15) (.seq (r59_3) (.ret)) (.skip)))) (.seq (.seq (r59_4) (.cond (.tmp 25) (.seq (r59_5) (.ret)) (.skip))) (.seq (.seq (r59_6) (.block 0 (.loop b59_0))) (.seq (r59_12) (.ret)))))) := entI T (F := Tryz.f59) (by kernel_rfl) (by kernel_rfl) (by kernel_rfl)
@[go_sem ↓] theorem run59 : RR r59_0 [oo 1 (.box 82 (.tmp 0)), oo 2 (oi 0)] ∧ RD r59_1 59 [oo 6 (oF 82 1 0), oo 7 (oL 3 6), oo 8 (.call ⟨.value (.func 90), #[.tmp 7, .const (.int .i64 1), .const (.int .i64 16)], #[3, 3, 3]⟩), oo 9 (oF 82 1 1), oo 10 (oL 3 9), oo 11 (.call ⟨.value (.func 90), #[.tmp 10, .const (.int .i64 1), .const (.int .i64 16)], #[3, 3, 3]⟩), oo 12 (.buildSlice 28 2 #[(0, .tmp 8), (1, .tmp 11)]), oo 13 (o1 108 12 28), oo 3 (oG 13)] [(0, 3), (1, 3), (2, 3), (0, 4), (1, 4), (2, 4)] ∧ RR r59_2 [oo 14 (oM 3), oo 15 (oC .neq 3 14 0)] ∧ RR r59_3 [oo 16 (oM 3), oo 2 (oG 16)] ∧ RR r59_4 [oo 17 (oF 82 1 2), oo 18 (oL 80 17), oo 19 (oN 18 80), oo 20 (oF 82 1 0), oo 21 (oL 3 20), oo 22 (oF 82 1 1), oo 23 (oL 3 22), oo 24 (oB .mul 3 21 23), oo 25 (oB .neq 3 19 24)] ∧ RR r59_5 [oo 2 (oi 2)] ∧ RR r59_6 [oo 4 (oi 0)] ∧ RR r59_7 [oo 26 (oM 4), oo 27 (oF 82 1 2), oo 28 (oL 80 27), oo 29 (oN 28 80), oo 30 (oB .lss 3 26 29)] ∧ RR r59_9 [oo 33 (oF 82 1 2), oo 34 (oL 80 33), oo 35 (oM 4), oo 36 (oI 80 34 35), oo 37 (oL 150 36), oo 38 (o1 155 37 150), oo 5 (oG 38)] ∧ RR r59_10 [oo 39 (oM 5), oo 40 (oC .neq 3 39 0)] ∧ RR r59_11 [oo 41 (oM 5), oo 2 (oG 41)] ∧ RR r59_8 [oo 31 (oM 4), oo 32 (oC .add 3 31 1), oo 4 (oG 32)] ∧ RI b59_0 (.seq (.seq (r59_7) (.cond (.tmp 30) (.skip) (.exit 0))) (.seq (.block 1 (.seq (r59_9) (.seq (r59_10) (.cond (.tmp 40) (.seq (r59_11) (.ret)) (.skip))))) (r59_8))) ∧ KeepS T 59 b59_0 [1, 4] ∧ RR r59_12 [oo 2 (oi 0)] ∧ FinF T 59 [.tmp 2] false := by refine ⟨runR T ?_, runD T (id := 1) ?_ ?_, runR T ?_, runR T ?_, runR T ?_, runR T ?_, runR T ?_, runR T ?_, runR T ?_, runR T ?_, runR T ?_, runR T ?_, runIc T ?_, keepS T ?_, runR T ?_, finI T (F := Tryz.f59) ?_ ?_ ?_⟩ <;> kernel_rfl
@[go_sem] theorem fr63 : Fct T 63 false none false ∧ Res1 T 63 29 := by refine ⟨⟨?_, ?_, ?_⟩, res1 T (F := Tryz.f63) ?_ ?_⟩ <;> kernel_rfl
@[go_sem] theorem fr158 : Fct T 158 false none false ∧ Res1 T 158 187 := by refine ⟨⟨?_, ?_, ?_⟩, res1 T (F := Tryz.f158) ?_ ?_⟩ <;> kernel_rfl
@[go_sem] theorem fr159 : Fct T 159 false none false ∧ Res1 T 159 29 := by refine ⟨⟨?_, ?_, ?_⟩, res1 T (F := Tryz.f159) ?_ ?_⟩ <;> kernel_rfl
def r63_0 := nv 2 Tryz.f63
def r63_1 := nv 12 Tryz.f63
def r63_2 := nv 26 Tryz.f63
def r63_3 := nv 108 Tryz.f63
def r63_4 := nv 14 Tryz.f63
theorem ent63 : Ent T 63 31 (.seq (r63_0) (.seq (.seq (r63_1) (.seq (r63_2) (.cond (.tmp 13) (.seq (r63_3) (.ret)) (.skip)))) (.seq (r63_4) (.ret)))) := entI T (F := Tryz.f63) (by kernel_rfl) (by kernel_rfl) (by kernel_rfl)
@[go_sem ↓] theorem run63 : RR r63_0 [oo 1 (.box 85 (.tmp 0)), oo 2 (oi 0)] ∧ RD r63_1 63 [oo 4 (oF 85 1 0), oo 5 (oL 3 4), oo 6 (.call ⟨.value (.func 137), #[.tmp 5, .const (.int .i64 1), .const (.int .i64 16)], #[3, 3, 3]⟩), oo 7 (oF 85 1 1), oo 8 (oL 3 7), oo 9 (.call ⟨.value (.func 137), #[.tmp 8, .const (.int .i64 1), .const (.int .i64 16)], #[3, 3, 3]⟩), oo 10 (.buildSlice 187 2 #[(0, .tmp 6), (1, .tmp 9)]), oo 11 (o1 114 10 187), oo 3 (oG 11)] [(0, 3), (1, 3), (2, 3), (0, 4), (1, 4), (2, 4)] ∧ RR r63_2 [oo 12 (oM 3), oo 13 (oC .neq 29 12 0)] ∧ RR r63_3 [oo 14 (oM 3), oo 2 (oG 14)] ∧ RD r63_4 63 [oo 15 (oF 85 1 2), oo 16 (oL 80 15), oo 17 (oN 16 80), oo 18 (oF 85 1 0), oo 19 (oL 3 18), oo 20 (oF 85 1 1), oo 21 (oL 3 20), oo 22 (oB .mul 3 19 21), oo 23 (oB .neq 3 17 22), oo 24 (.call ⟨.value (.func 115), #[.tmp 23, .const (.int .i64 2)], #[4, 29]⟩), oo 25 (oF 85 1 2), oo 26 (oL 80 25), oo 27 (.call ⟨.value (.func 158), #[.tmp 26, .func 159], #[80, 239]⟩), oo 28 (o1 114 27 187), oo 29 (.buildSlice 187 2 #[(0, .tmp 24), (1, .tmp 28)]), oo 30 (o1 114 29 187), oo 2 (oG 30)] [(0, 3), (1, 3), (2, 3), (0, 4), (1, 4), (2, 4), (0, 5), (1, 5), (2, 5), (3, 5), (4, 5), (0, 6), (1, 6), (2, 6), (3, 6), (4, 6), (0, 7), (1, 7), (2, 7), (0, 10), (1, 10), (2, 10), (3, 10), (4, 10), (5, 10), (6, 10), (7, 10), (8, 10), (9, 10), (0, 11), (1, 11), (2, 11), (3, 11), (4, 11), (5, 11), (6, 11), (7, 11), (8, 11), (9, 11)] ∧ FinF T 63 [.tmp 2] false := by refine ⟨runR T ?_, runD T (id := 1) ?_ ?_, runR T ?_, runR T ?_, runD T (id := 4) ?_ ?_, finI T (F := Tryz.f63) ?_ ?_ ?_⟩ <;> kernel_rfl
def r150_0 := nv 2 Tryz.f150
def r150_1 := nv 6 Tryz.f150
theorem ent150 : Ent T 150 11 (.seq (r150_0) (.seq (r150_1) (.ret))) := entI T (F := Tryz.f150) (by kernel_rfl) (by kernel_rfl) (by kernel_rfl)
@[go_sem ↓] theorem run150 : RR r150_0 [oo 2 (.box 85 (.tmp 0)), oo 4 (oi 0)] ∧ RR r150_1 [oo 5 (oL 85 2), oo 6 (o1 63 5 85), oo 7 (oM 1), oo 8 (.call ⟨.value (.func 137), #[.tmp 7, .const (.int .i64 1), .const (.int .i64 16384)], #[3, 3, 3]⟩), oo 9 (.buildSlice 187 2 #[(0, .tmp 6), (1, .tmp 8)]), oo 10 (o1 114 9 187), oo 4 (oG 10)] ∧ FinF T 150 [.tmp 4] false := by refine ⟨runR T ?_, runR T ?_, finI T (F := Tryz.f150) ?_ ?_ ?_⟩ <;> kernel_rfl
@[go_sem] theorem fr213 : Fct T 213 false none false ∧ Res1 T 213 28 := by refine ⟨⟨?_, ?_, ?_⟩, res1 T (F := Tryz.f213) ?_ ?_⟩ <;> kernel_rfl
@[go_sem] theorem fr214 : Fct T 214 false none false ∧ Res1 T 214 3 := by refine ⟨⟨?_, ?_, ?_⟩, res1 T (F := Tryz.f214) ?_ ?_⟩ <;> kernel_rfl
def r151_0 := nv 2 Tryz.f151
def r151_1 := nv 6 Tryz.f151
def r151_2 := nv 14 Tryz.f151
def r151_3 := nv 30 Tryz.f151
def r151_4 := nv 124 Tryz.f151
def b151_0 := nv 500 Tryz.f151
def r151_5 := nv 1000 Tryz.f151
def r151_6 := nv 16024 Tryz.f151
def r151_7 := nv 32050 Tryz.f151
def r151_8 := nv 64102 Tryz.f151
def r151_9 := nv 4007 Tryz.f151
def r151_10 := nv 126 Tryz.f151
theorem ent151 : Ent T 151 41 (.seq (r151_0) (.seq (r151_1) (.seq (r151_2) (.seq (r151_3) (.seq (.seq (r151_4) (.block 0 (.loop b151_0))) (.seq (r151_10) (.ret))))))) := entI T (F := Tryz.f151) (by kernel_rfl) (by kernel_rfl) (by kernel_rfl)
@[go_sem ↓] theorem run151 : RR r151_0 [oo 2 (.box 85 (.tmp 0)), oo 4 on] ∧ RR r151_1 [oo 10 (oF 85 2 2), oo 11 (oL 80 10), oo 12 (.call ⟨.value (.func 213), #[.tmp 11, .func 214], #[80, 235]⟩), oo 5 (oG 12)] ∧ RR r151_2 [oo 13 (oM 5), oo 14 (o1 183 13 28), oo 6 (oG 14)] ∧ RR r151_3 [oo 7 on] ∧ RR r151_4 [oo 15 (oM 5), oo 16 (oN 15 28), oo 17 (.move (.const (.int .i64 0)))] ∧ RR r151_5 [oo 18 (oB .lss 3 17 16)] ∧ RR r151_6 [oo 19 (oM 17), oo 20 (oI 28 15 17), oo 21 (oL 3 20), oo 8 (oG 19), oo 9 (oG 21)] ∧ RR r151_7 [oo 22 (oM 9), oo 23 (oM 6), oo 24 (oM 1), oo 25 (oB .add 3 23 24), oo 26 (oB .geq 3 22 25)] ∧ RD r151_8 151 [oo 27 (oM 7), oo 28 (oM 8), oo 29 (oF 85 2 0), oo 30 (oL 3 29), oo 31 (oB .rem 3 28 30), oo 32 (oM 8), oo 33 (oF 85 2 0), oo 34 (oL 3 33), oo 35 (oB .quo 3 32 34), oo 36 (.build 100 #[(0, .tmp 31), (1, .tmp 35)]), oo 37 (oS 48 36), oo 38 (oA 27 37 48), oo 7 (oG 38)] [(0, 1), (0, 2), (1, 2), (0, 3), (1, 3), (0, 4), (0, 5), (1, 5), (2, 5), (3, 5), (4, 5), (0, 6), (1, 6), (2, 6), (3, 6), (4, 6), (5, 6), (0, 7), (1, 7), (2, 7), (3, 7), (4, 7), (5, 7), (0, 8), (1, 8), (2, 8), (3, 8), (4, 8), (0, 9), (0, 10)] ∧ RR r151_9 [oo 39 (oC .add 3 17 1), oo 17 (oM 39)] ∧ RI b151_0 (.seq (r151_5) (.seq (.cond (.tmp 18) (.skip) (.exit 0)) (.seq (.block 1 (.seq (r151_6) (.seq (r151_7) (.cond (.tmp 26) (r151_8) (.skip))))) (r151_9)))) ∧ KeepS T 151 b151_0 [1, 2, 6, 7, 15, 16, 17] ∧ RR r151_10 [oo 40 (oM 7), oo 4 (oG 40)] ∧ FinF T 151 [.tmp 4] false := by refine ⟨runR T ?_, runR T ?_, runR T ?_, runR T ?_, runR T ?_, runR T ?_, runR T ?_, runR T ?_, runD T (id := 8) ?_ ?_, runR T ?_, runIc T ?_, keepS T ?_, runR T ?_, finI T (F := Tryz.f151) ?_ ?_ ?_⟩ <;> kernel_rfl
def r152_0 := nv 2 Tryz.f152
def r152_1 := nv 6 Tryz.f152
theorem ent152 : Ent T 152 16 (.seq (r152_0) (.seq (r152_1) (.ret))) := entI T (F := Tryz.f152) (by kernel_rfl) (by kernel_rfl) (by kernel_rfl)
@[go_sem ↓] theorem run152 : RR r152_0 [oo 2 (.box 100 (.tmp 0)), oo 3 (.box 100 (.tmp 1)), oo 4 (.alloc 100)] ∧ RR r152_1 [oo 5 (oF 100 2 0), oo 6 (oL 3 5), oo 7 (oF 100 3 0), oo 8 (oL 3 7), oo 9 (oB .add 3 6 8), oo 10 (oF 100 2 1), oo 11 (oL 3 10), oo 12 (oF 100 3 1), oo 13 (oL 3 12), oo 14 (oB .add 3 11 13), oo 15 (.build 100 #[(0, .tmp 9), (1, .tmp 14)]), ow 100 4 15] ∧ FinF T 152 [.cell 4 100] false := by refine ⟨runR T ?_, runR T ?_, finI T (F := Tryz.f152) ?_ ?_ ?_⟩ <;> kernel_rfl
def r153_0 := nv 2 Tryz.f153
def r153_1 := nv 6 Tryz.f153
def r153_2 := nv 28 Tryz.f153
def b153_0 := nv 116 Tryz.f153
def r153_3 := nv 232 Tryz.f153
def r153_4 := nv 3736 Tryz.f153
def r153_5 := nv 3737 Tryz.f153
def r153_6 := nv 935 Tryz.f153
def r153_7 := nv 30 Tryz.f153
theorem ent153 : Ent T 153 22 (.seq (r153_0) (.seq (r153_1) (.seq (.seq (r153_2) (.block 0 (.loop b153_0))) (.seq (r153_7) (.ret))))) := entI T (F := Tryz.f153) (by kernel_rfl) (by kernel_rfl) (by kernel_rfl)
@[go_sem ↓] theorem run153 : RR r153_0 [oo 4 on] ∧ RR r153_1 [oo 5 on] ∧ RR r153_2 [oo 8 (oM 0), oo 9 (oN 8 225), oo 10 (.move (.const (.int .i64 0)))] ∧ RR r153_3 [oo 11 (oB .lss 3 10 9)] ∧ RR r153_4 [oo 12 (oI 225 8 10), oo 13 (oL 227 12), oo 7 (.alloc 227), ow 227 7 13] ∧ RR r153_5 [oo 14 (oM 5), oo 15 (oM 1), oo 16 (oL 227 7), oo 17 (.call ⟨.value (.tmp 15), #[.tmp 16], #[227]⟩), oo 18 (oS 87 17), oo 19 (oA 14 18 87), oo 5 (oG 19)] ∧ RR r153_6 [oo 20 (oC .add 3 10 1), oo 10 (oM 20)] ∧ RI b153_0 (.seq (r153_3) (.seq (.cond (.tmp 11) (.skip) (.exit 0)) (.seq (.block 1 (.seq (r153_4) (r153_5))) (r153_6)))) ∧ KeepS T 153 b153_0 [1, 5, 8, 9, 10] ∧ RR r153_7 [oo 21 (oM 5), oo 4 (oG 21)] ∧ FinF T 153 [.tmp 4] false := by refine ⟨runR T ?_, runR T ?_, runR T ?_, runR T ?_, runR T ?_, runR T ?_, runR T ?_, runIc T ?_, keepS T ?_, runR T ?_, finI T (F := Tryz.f153) ?_ ?_ ?_⟩ <;> kernel_rfl
def r154_0 := nv 2 Tryz.f154
def r154_1 := nv 6 Tryz.f154
theorem ent154 : Ent T 154 5 (.seq (r154_0) (.seq (r154_1) (.ret))) := entI T (F := Tryz.f154) (by kernel_rfl) (by kernel_rfl) (by kernel_rfl)
@[go_sem ↓] theorem run154 : RR r154_0 [oo 1 (.box 227 (.tmp 0)), oo 2 (.alloc 153)] ∧ RR r154_1 [oo 3 (oF 227 1 0), oo 4 (oL 153 3), ow 153 2 4] ∧ FinF T 154 [.cell 2 153] false := by refine ⟨runR T ?_, runR T ?_, finI T (F := Tryz.f154) ?_ ?_ ?_⟩ <;> kernel_rfl
@[go_sem] theorem fr215 : Fct T 215 false none false ∧ Res1 T 215 3 := by refine ⟨⟨?_, ?_, ?_⟩, res1 T (F := Tryz.f215) ?_ ?_⟩ <;> kernel_rfl
def r155_0 := nv 2 Tryz.f155
def r155_1 := nv 6 Tryz.f155
theorem ent155 : Ent T 155 5 (.seq (r155_0) (.seq (r155_1) (.ret))) := entI T (F := Tryz.f155) (by kernel_rfl) (by kernel_rfl) (by kernel_rfl)
@[go_sem ↓] theorem run155 : RR r155_0 [oo 2 (oi 0)] ∧ RR r155_1 [oo 3 (oM 0), oo 4 (.call ⟨.value (.func 215), #[.tmp 3, .const (.int .i64 16384)], #[150, 3]⟩), oo 2 (oG 4)] ∧ FinF T 155 [.tmp 2] false := by refine ⟨runR T ?_, runR T ?_, finI T (F := Tryz.f155) ?_ ?_ ?_⟩ <;> kernel_rfl
def r158_0 := nv 2 Tryz.f158
def r158_1 := nv 6 Tryz.f158
def r158_2 := nv 28 Tryz.f158
def b158_0 := nv 116 Tryz.f158
def r158_3 := nv 232 Tryz.f158
def r158_4 := nv 3736 Tryz.f158
def r158_5 := nv 3737 Tryz.f158
def r158_6 := nv 935 Tryz.f158
def r158_7 := nv 30 Tryz.f158
theorem ent158 : Ent T 158 22 (.seq (r158_0) (.seq (r158_1) (.seq (.seq (r158_2) (.block 0 (.loop b158_0))) (.seq (r158_7) (.ret))))) := entI T (F := Tryz.f158) (by kernel_rfl) (by kernel_rfl) (by kernel_rfl)
@[go_sem ↓] theorem run158 : RR r158_0 [oo 4 on] ∧ RR r158_1 [oo 5 on] ∧ RR r158_2 [oo 8 (oM 0), oo 9 (oN 8 80), oo 10 (.move (.const (.int .i64 0)))] ∧ RR r158_3 [oo 11 (oB .lss 3 10 9)] ∧ RR r158_4 [oo 12 (oI 80 8 10), oo 13 (oL 150 12), oo 7 (oG 13)] ∧ RR r158_5 [oo 14 (oM 5), oo 15 (oM 1), oo 16 (oM 7), oo 17 (.call ⟨.value (.tmp 15), #[.tmp 16], #[150]⟩), oo 18 (oS 187 17), oo 19 (oA 14 18 187), oo 5 (oG 19)] ∧ RR r158_6 [oo 20 (oC .add 3 10 1), oo 10 (oM 20)] ∧ RI b158_0 (.seq (r158_3) (.seq (.cond (.tmp 11) (.skip) (.exit 0)) (.seq (.block 1 (.seq (r158_4) (r158_5))) (r158_6)))) ∧ KeepS T 158 b158_0 [1, 5, 8, 9, 10] ∧ RR r158_7 [oo 21 (oM 5), oo 4 (oG 21)] ∧ FinF T 158 [.tmp 4] false := by refine ⟨runR T ?_, runR T ?_, runR T ?_, runR T ?_, runR T ?_, runR T ?_, runR T ?_, runIc T ?_, keepS T ?_, runR T ?_, finI T (F := Tryz.f158) ?_ ?_ ?_⟩ <;> kernel_rfl
@[go_sem] theorem fr216 : Fct T 216 false none false ∧ Res1 T 216 29 := by refine ⟨⟨?_, ?_, ?_⟩, res1 T (F := Tryz.f216) ?_ ?_⟩ <;> kernel_rfl
@[go_sem] theorem fr217 : Fct T 217 false none false ∧ Res1 T 217 29 := by refine ⟨⟨?_, ?_, ?_⟩, res1 T (F := Tryz.f217) ?_ ?_⟩ <;> kernel_rfl
@[go_sem] theorem fr218 : Fct T 218 false none false ∧ Res1 T 218 4 := by refine ⟨⟨?_, ?_, ?_⟩, res1 T (F := Tryz.f218) ?_ ?_⟩ <;> kernel_rfl
@[go_sem] theorem fr219 : Fct T 219 false none false ∧ Res1 T 219 29 := by refine ⟨⟨?_, ?_, ?_⟩, res1 T (F := Tryz.f219) ?_ ?_⟩ <;> kernel_rfl
def r159_0 := nv 2 Tryz.f159
def r159_1 := nv 6 Tryz.f159
theorem ent159 : Ent T 159 10 (.seq (r159_0) (.seq (r159_1) (.ret))) := entI T (F := Tryz.f159) (by kernel_rfl) (by kernel_rfl) (by kernel_rfl)
@[go_sem ↓] theorem run159 : RR r159_0 [oo 2 (oi 0)] ∧ RR r159_1 [oo 3 (oM 0), oo 4 (o1 218 3 150), oo 5 (.call ⟨.value (.func 217), #[.tmp 4, .const (.int .i64 1)], #[4, 29]⟩), oo 6 (oM 0), oo 7 (.call ⟨.value (.func 219), #[.tmp 6, .const (.float .f32 1149239296)], #[150, 150]⟩), oo 8 (.buildSlice 187 2 #[(0, .tmp 5), (1, .tmp 7)]), oo 9 (o1 216 8 187), oo 2 (oG 9)] ∧ FinF T 159 [.tmp 2] false := by refine ⟨runR T ?_, runR T ?_, finI T (F := Tryz.f159) ?_ ?_ ?_⟩ <;> kernel_rfl
def r213_0 := nv 2 Tryz.f213
def r213_1 := nv 6 Tryz.f213
def r213_2 := nv 28 Tryz.f213
def b213_0 := nv 116 Tryz.f213
def r213_3 := nv 232 Tryz.f213
def r213_4 := nv 3736 Tryz.f213
def r213_5 := nv 3737 Tryz.f213
def r213_6 := nv 935 Tryz.f213
def r213_7 := nv 30 Tryz.f213
theorem ent213 : Ent T 213 22 (.seq (r213_0) (.seq (r213_1) (.seq (.seq (r213_2) (.block 0 (.loop b213_0))) (.seq (r213_7) (.ret))))) := entI T (F := Tryz.f213) (by kernel_rfl) (by kernel_rfl) (by kernel_rfl)
@[go_sem ↓] theorem run213 : RR r213_0 [oo 4 on] ∧ RR r213_1 [oo 5 on] ∧ RR r213_2 [oo 8 (oM 0), oo 9 (oN 8 80), oo 10 (.move (.const (.int .i64 0)))] ∧ RR r213_3 [oo 11 (oB .lss 3 10 9)] ∧ RR r213_4 [oo 12 (oI 80 8 10), oo 13 (oL 150 12), oo 7 (oG 13)] ∧ RR r213_5 [oo 14 (oM 5), oo 15 (oM 1), oo 16 (oM 7), oo 17 (.call ⟨.value (.tmp 15), #[.tmp 16], #[150]⟩), oo 18 (oS 28 17), oo 19 (oA 14 18 28), oo 5 (oG 19)] ∧ RR r213_6 [oo 20 (oC .add 3 10 1), oo 10 (oM 20)] ∧ RI b213_0 (.seq (r213_3) (.seq (.cond (.tmp 11) (.skip) (.exit 0)) (.seq (.block 1 (.seq (r213_4) (r213_5))) (r213_6)))) ∧ KeepS T 213 b213_0 [1, 5, 8, 9, 10] ∧ RR r213_7 [oo 21 (oM 5), oo 4 (oG 21)] ∧ FinF T 213 [.tmp 4] false := by refine ⟨runR T ?_, runR T ?_, runR T ?_, runR T ?_, runR T ?_, runR T ?_, runR T ?_, runIc T ?_, keepS T ?_, runR T ?_, finI T (F := Tryz.f213) ?_ ?_ ?_⟩ <;> kernel_rfl
def r214_0 := nv 2 Tryz.f214
def r214_1 := nv 6 Tryz.f214
theorem ent214 : Ent T 214 6 (.seq (r214_0) (.seq (r214_1) (.ret))) := entI T (F := Tryz.f214) (by kernel_rfl) (by kernel_rfl) (by kernel_rfl)
@[go_sem ↓] theorem run214 : RR r214_0 [oo 2 (oi 0)] ∧ RR r214_1 [oo 3 (oM 0), oo 4 (.binOp .mul 150 (.const (.float .f32 1098907648)) (.tmp 3) 150), oo 5 (.convert 150 3 (.tmp 4)), oo 2 (oG 5)] ∧ FinF T 214 [.tmp 2] false := by refine ⟨runR T ?_, runR T ?_, finI T (F := Tryz.f214) ?_ ?_ ?_⟩ <;> kernel_rfl
def r215_0 := nv 2 Tryz.f215
def r215_1 := nv 12 Tryz.f215
def r215_2 := nv 52 Tryz.f215
def r215_3 := nv 14 Tryz.f215
def r215_4 := nv 60 Tryz.f215
def r215_5 := nv 244 Tryz.f215
def r215_6 := nv 62 Tryz.f215
theorem ent215 : Ent T 215 31 (.seq (r215_0) (.seq (.seq (r215_1) (.cond (.tmp 9) (.seq (r215_2) (.ret)) (.skip))) (.seq (r215_3) (.seq (.seq (r215_4) (.cond (.tmp 30) (.seq (r215_5) (.ret)) (.skip))) (.seq (r215_6) (.ret)))))) := entI T (F := Tryz.f215) (by kernel_rfl) (by kernel_rfl) (by kernel_rfl)
@[go_sem ↓] theorem run215 : RR r215_0 [oo 4 (oi 0)] ∧ RR r215_1 [oo 6 (oM 0), oo 7 (oM 0), oo 8 (oB .sub 150 6 7), oo 9 (.binOp .neq 150 (.tmp 8) (.const (.float .f32 0)) 150)] ∧ RR r215_2 [oo 4 (oi 1)] ∧ RR r215_3 [oo 10 (oM 0), oo 11 (.convert 150 310 (.tmp 10)), oo 12 (.binOp .mul 310 (.const (.float .f64 4625196817309499392)) (.tmp 11) 310), oo 5 (oG 12)] ∧ RR r215_4 [oo 13 (oM 5), oo 14 (oM 1), oo 15 (.convert 3 310 (.tmp 14)), oo 16 (.binOp .sub 310 (.const (.float .f64 0)) (.tmp 15) 310), oo 17 (oB .lss 310 13 16), oo 18 (oM 17), of 19 (oM 5) 18, of 20 (oM 1) 18, of 21 (.convert 3 310 (.tmp 20)) 18, of 22 (oB .gtr 310 19 21) 18, oo 23 (.pick (.tmp 18) (.const (.bool true)) (.tmp 22)), oo 24 (oM 23), of 25 (oM 5) 24, of 26 (.convert 310 3 (.tmp 25)) 24, of 27 (.convert 3 310 (.tmp 26)) 24, of 28 (oM 5) 24, of 29 (oB .neq 310 27 28) 24, oo 30 (.pick (.tmp 24) (.const (.bool true)) (.tmp 29))] ∧ RR r215_5 [oo 4 (oi 3)] ∧ RR r215_6 [oo 4 (oi 0)] ∧ FinF T 215 [.tmp 4] false := by refine ⟨runR T ?_, runR T ?_, runR T ?_, runR T ?_, runR T ?_, runR T ?_, runR T ?_, finI T (F := Tryz.f215) ?_ ?_ ?_⟩ <;> kernel_rfl
def r216_0 := nv 2 Tryz.f216
def r216_1 := nv 12 Tryz.f216
def b216_0 := nv 52 Tryz.f216
def r216_2 := nv 104 Tryz.f216
def r216_3 := nv 1688 Tryz.f216
def r216_4 := nv 3378 Tryz.f216
def r216_5 := nv 13516 Tryz.f216
def r216_6 := nv 423 Tryz.f216
def r216_7 := nv 14 Tryz.f216
theorem ent216 : Ent T 216 15 (.seq (r216_0) (.seq (.seq (r216_1) (.block 0 (.loop b216_0))) (.seq (r216_7) (.ret)))) := entI T (F := Tryz.f216) (by kernel_rfl) (by kernel_rfl) (by kernel_rfl)
@[go_sem ↓] theorem run216 : RR r216_0 [oo 2 (oi 0)] ∧ RR r216_1 [oo 5 (oM 0), oo 6 (oN 5 187), oo 7 (.move (.const (.int .i64 0)))] ∧ RR r216_2 [oo 8 (oB .lss 3 7 6)] ∧ RR r216_3 [oo 9 (oI 187 5 7), oo 10 (oL 29 9), oo 4 (oG 10)] ∧ RR r216_4 [oo 11 (oM 4), oo 12 (oC .neq 29 11 0)] ∧ RR r216_5 [oo 13 (oM 4), oo 2 (oG 13)] ∧ RR r216_6 [oo 14 (oC .add 3 7 1), oo 7 (oM 14)] ∧ RI b216_0 (.seq (r216_2) (.seq (.cond (.tmp 8) (.skip) (.exit 0)) (.seq (.block 1 (.seq (r216_3) (.seq (r216_4) (.cond (.tmp 12) (.seq (r216_5) (.ret)) (.skip))))) (r216_6)))) ∧ KeepS T 216 b216_0 [5, 6, 7] ∧ RR r216_7 [oo 2 (oi 0)] ∧ FinF T 216 [.tmp 2] false := by refine ⟨runR T ?_, runR T ?_, runR T ?_, runR T ?_, runR T ?_, runR T ?_, runR T ?_, runIc T ?_, keepS T ?_, runR T ?_, finI T (F := Tryz.f216) ?_ ?_ ?_⟩ <;> kernel_rfl
def r217_0 := nv 2 Tryz.f217
def r217_1 := nv 12 Tryz.f217
def r217_2 := nv 52 Tryz.f217
def r217_3 := nv 14 Tryz.f217
theorem ent217 : Ent T 217 7 (.seq (r217_0) (.seq (.seq (r217_1) (.cond (.tmp 5) (.seq (r217_2) (.ret)) (.skip))) (.seq (r217_3) (.ret)))) := entI T (F := Tryz.f217) (by kernel_rfl) (by kernel_rfl) (by kernel_rfl)
@[go_sem ↓] theorem run217 : RR r217_0 [oo 4 (oi 0)] ∧ RR r217_1 [oo 5 (oM 0)] ∧ RR r217_2 [oo 6 (oM 1), oo 4 (oG 6)] ∧ RR r217_3 [oo 4 (oi 0)] ∧ FinF T 217 [.tmp 4] false := by refine ⟨runR T ?_, runR T ?_, runR T ?_, runR T ?_, finI T (F := Tryz.f217) ?_ ?_ ?_⟩ <;> kernel_rfl
@[go_sem] theorem fr236 : Fct T 236 false none false ∧ Res1 T 236 4 := by refine ⟨⟨?_, ?_, ?_⟩, res1 T (F := Tryz.f236) ?_ ?_⟩ <;> kernel_rfl
@[go_sem] theorem fr237 : Fct T 237 false none false ∧ Res1 T 237 4 := by refine ⟨⟨?_, ?_, ?_⟩, res1 T (F := Tryz.f237) ?_ ?_⟩ <;> kernel_rfl
def r218_0 := nv 2 Tryz.f218
def r218_1 := nv 6 Tryz.f218
theorem ent218 : Ent T 218 11 (.seq (r218_0) (.seq (r218_1) (.ret))) := entI T (F := Tryz.f218) (by kernel_rfl) (by kernel_rfl) (by kernel_rfl)
@[go_sem ↓] theorem run218 : RR r218_0 [oo 2 (.assign (.const (.bool false)))] ∧ RR r218_1 [oo 3 (oM 0), oo 4 (.convert 150 310 (.tmp 3)), oo 5 (o1 236 4 310), oo 6 (oM 5), of 7 (oM 0) 6, of 8 (.convert 150 310 (.tmp 7)) 6, of 9 (.call ⟨.value (.func 237), #[.tmp 8, .const (.int .i64 0)], #[310, 3]⟩) 6, oo 10 (.pick (.tmp 6) (.const (.bool true)) (.tmp 9)), oo 2 (oG 10)] ∧ FinF T 218 [.tmp 2] false := by refine ⟨runR T ?_, runR T ?_, finI T (F := Tryz.f218) ?_ ?_ ?_⟩ <;> kernel_rfl
@[go_sem] theorem fr238 : Fct T 238 false none false ∧ Res1 T 238 310 := by refine ⟨⟨?_, ?_, ?_⟩, res1 T (F := Tryz.f238) ?_ ?_⟩ <;> kernel_rfl
def r219_0 := nv 2 Tryz.f219
def r219_1 := nv 6 Tryz.f219
theorem ent219 : Ent T 219 25 (.seq (r219_0) (.seq (r219_1) (.ret))) := entI T (F := Tryz.f219) (by kernel_rfl) (by kernel_rfl) (by kernel_rfl)
@[go_sem ↓] theorem run219 : RR r219_0 [oo 4 (oi 0)] ∧ RR r219_1 [oo 5 (oM 0), oo 6 (oM 1), oo 7 (.unOp .neg 150 (.tmp 6)), oo 8 (oB .lss 150 5 7), oo 9 (oM 8), of 10 (oM 0) 9, of 11 (oM 1) 9, of 12 (oB .gtr 150 10 11) 9, oo 13 (.pick (.tmp 9) (.const (.bool true)) (.tmp 12)), oo 14 (oM 13), of 15 (oM 0) 14, of 16 (.binOp .mul 150 (.const (.float .f32 1098907648)) (.tmp 15) 150) 14, of 17 (.convert 150 310 (.tmp 16)) 14, of 18 (o1 238 17 310) 14, of 19 (.convert 310 150 (.tmp 18)) 14, of 20 (oM 0) 14, of 21 (.binOp .mul 150 (.const (.float .f32 1098907648)) (.tmp 20) 150) 14, of 22 (oB .neq 150 19 21) 14, oo 23 (.pick (.tmp 14) (.const (.bool true)) (.tmp 22)), oo 24 (.call ⟨.value (.func 217), #[.tmp 23, .const (.int .i64 3)], #[4, 29]⟩), oo 4 (oG 24)] ∧ FinF T 219 [.tmp 4] false := by refine ⟨runR T ?_, runR T ?_, finI T (F := Tryz.f219) ?_ ?_ ?_⟩ <;> kernel_rfl
def r236_0 := nv 2 Tryz.f236
def r236_1 := nv 6 Tryz.f236
theorem ent236 : Ent T 236 6 (.seq (r236_0) (.seq (r236_1) (.ret))) := entI T (F := Tryz.f236) (by kernel_rfl) (by kernel_rfl) (by kernel_rfl)
@[go_sem ↓] theorem run236 : RR r236_0 [oo 2 (.assign (.const (.bool false)))] ∧ RR r236_1 [oo 3 (oM 0), oo 4 (oM 0), oo 5 (oB .neq 310 3 4), oo 2 (oG 5)] ∧ FinF T 236 [.tmp 2] false := by refine ⟨runR T ?_, runR T ?_, finI T (F := Tryz.f236) ?_ ?_ ?_⟩ <;> kernel_rfl
@[go_sem] theorem fr258 : Fct T 258 false none false ∧ Res1 T 258 310 := by refine ⟨⟨?_, ?_, ?_⟩, res1 T (F := Tryz.f258) ?_ ?_⟩ <;> kernel_rfl
def r237_0 := nv 2 Tryz.f237
def r237_1 := nv 12 Tryz.f237
def r237_2 := nv 26 Tryz.f237
def r237_3 := nv 54 Tryz.f237
def r237_4 := nv 110 Tryz.f237
def r237_5 := nv 14 Tryz.f237
theorem ent237 : Ent T 237 15 (.seq (r237_0) (.seq (.seq (r237_1) (.cond (.tmp 6) (r237_2) (.seq (r237_3) (.cond (.tmp 10) (r237_4) (.skip))))) (.seq (r237_5) (.ret)))) := entI T (F := Tryz.f237) (by kernel_rfl) (by kernel_rfl) (by kernel_rfl)
@[go_sem ↓] theorem run237 : RR r237_0 [oo 4 (.assign (.const (.bool false)))] ∧ RR r237_1 [oo 5 (oM 1), oo 6 (oC .eql 3 5 0)] ∧ RR r237_2 [oo 7 (oM 0), oo 8 (o1 258 7 310), oo 0 (oG 8)] ∧ RR r237_3 [oo 9 (oM 1), oo 10 (oC .lss 3 9 0)] ∧ RR r237_4 [oo 11 (oM 0), oo 12 (.unOp .neg 310 (.tmp 11)), oo 0 (oG 12)] ∧ RR r237_5 [oo 13 (oM 0), oo 14 (.binOp .gtr 310 (.tmp 13) (.const (.float .f64 9218868437227405311)) 310), oo 4 (oG 14)] ∧ FinF T 237 [.tmp 4] false := by refine ⟨runR T ?_, runR T ?_, runR T ?_, runR T ?_, runR T ?_, runR T ?_, finI T (F := Tryz.f237) ?_ ?_ ?_⟩ <;> kernel_rfl
@[go_sem] theorem fct259 : Fct T 259 false (some floorV) false := ⟨by kernel_rfl, by kernel_rfl, by kernel_rfl⟩
@[go_sem] theorem fr260 : Fct T 260 false none false ∧ Res1 T 260 310 := by refine ⟨⟨?_, ?_, ?_⟩, res1 T (F := Tryz.f260) ?_ ?_⟩ <;> kernel_rfl
def r238_0 := nv 2 Tryz.f238
def r238_1 := nv 24 Tryz.f238
def r238_2 := nv 14 Tryz.f238
theorem ent238 : Ent T 238 7 (.seq (r238_0) (.seq (.cond (.const (.bool true)) (.seq (r238_1) (.ret)) (.skip)) (.seq (r238_2) (.ret)))) := entI T (F := Tryz.f238) (by kernel_rfl) (by kernel_rfl) (by kernel_rfl)
@[go_sem ↓] theorem run238 : RR r238_0 [oo 2 (.assign (.const (.float .f64 0)))] ∧ RR r238_1 [oo 3 (oM 0), oo 4 (o1 259 3 310), oo 2 (oG 4)] ∧ RR r238_2 [oo 5 (oM 0), oo 6 (o1 260 5 310), oo 2 (oG 6)] ∧ FinF T 238 [.tmp 2] false := by refine ⟨runR T ?_, runR T ?_, runR T ?_, finI T (F := Tryz.f238) ?_ ?_ ?_⟩ <;> kernel_rfl
@[go_sem] theorem fct283 : Fct T 283 false (some frombitsV) false := ⟨by kernel_rfl, by kernel_rfl, by kernel_rfl⟩
@[go_sem] theorem fct284 : Fct T 284 false (some bitsV) false := ⟨by kernel_rfl, by kernel_rfl, by kernel_rfl⟩
def r258_0 := nv 2 Tryz.f258
def r258_1 := nv 6 Tryz.f258
theorem ent258 : Ent T 258 7 (.seq (r258_0) (.seq (r258_1) (.ret))) := entI T (F := Tryz.f258) (by kernel_rfl) (by kernel_rfl) (by kernel_rfl)
@[go_sem ↓] theorem run258 : RR r258_0 [oo 2 (.assign (.const (.float .f64 0)))] ∧ RR r258_1 [oo 3 (oM 0), oo 4 (o1 284 3 310), oo 5 (.binOp .andNot 329 (.tmp 4) (.const (.int .u64 9223372036854775808)) 329), oo 6 (o1 283 5 329), oo 2 (oG 6)] ∧ FinF T 258 [.tmp 2] false := by refine ⟨runR T ?_, runR T ?_, finI T (F := Tryz.f258) ?_ ?_ ?_⟩ <;> kernel_rfl
@[go_sem] theorem fr66 : Fct T 66 false none false ∧ Res2 T 66 100 29 [] := by refine ⟨⟨?_, ?_, ?_⟩, res2 T (F := Tryz.f66) ?_ ?_⟩ <;> kernel_rfl
@[go_sem] theorem fr160 : Fct T 160 false none false ∧ Res1 T 160 29 := by refine ⟨⟨?_, ?_, ?_⟩, res1 T (F := Tryz.f160) ?_ ?_⟩ <;> kernel_rfl
@[go_sem] theorem fr161 : Fct T 161 false none false ∧ Res1 T 161 29 := by refine ⟨⟨?_, ?_, ?_⟩, res1 T (F := Tryz.f161) ?_ ?_⟩ <;> kernel_rfl
@[go_sem] theorem fr162 : Fct T 162 false none false ∧ Res1 T 162 100 := by refine ⟨⟨?_, ?_, ?_⟩, res1 T (F := Tryz.f162) ?_ ?_⟩ <;> kernel_rfl
def r66_0 := nv 2 Tryz.f66
def r66_1 := nv 12 Tryz.f66
def r66_2 := nv 26 Tryz.f66
def r66_3 := nv 108 Tryz.f66
def r66_4 := nv 14 Tryz.f66
theorem ent66 : Ent T 66 20 (.seq (r66_0) (.seq (.seq (r66_1) (.seq (r66_2) (.cond (.tmp 14) (.seq (r66_3) (.ret)) (.skip)))) (.seq (r66_4) (.ret)))) := entI T (F := Tryz.f66) (by kernel_rfl) (by kernel_rfl) (by kernel_rfl)
@[go_sem ↓] theorem run66 : RR r66_0 [oo 2 (.box 106 (.tmp 0)), oo 3 (.box 100 (.tmp 1)), oo 4 (.alloc 100), oo 5 (oi 0)] ∧ RD r66_1 66 [oo 7 (oL 106 2), oo 8 (o1 160 7 106), oo 9 (oL 100 3), oo 10 (o1 161 9 100), oo 11 (.buildSlice 187 2 #[(0, .tmp 8), (1, .tmp 10)]), oo 12 (o1 114 11 187), oo 6 (oG 12)] [(0, 2), (1, 2)] ∧ RR r66_2 [oo 13 (oM 6), oo 14 (oC .neq 29 13 0)] ∧ RR r66_3 [oo 15 (.build 100 #[]), oo 16 (oM 6), ow 100 4 15, oo 5 (oG 16)] ∧ RR r66_4 [oo 17 (oL 106 2), oo 18 (oL 100 3), oo 19 (o2 162 17 18 106 100), ow 100 4 19, oo 5 (oi 0)] ∧ FinF T 66 [.cell 4 100, .tmp 5] false := by refine ⟨runR T ?_, runD T (id := 1) ?_ ?_, runR T ?_, runR T ?_, runR T ?_, finI T (F := Tryz.f66) ?_ ?_ ?_⟩ <;> kernel_rfl
@[go_sem] theorem fr67 : Fct T 67 false none false ∧ Res2 T 67 100 29 [] := by refine ⟨⟨?_, ?_, ?_⟩, res2 T (F := Tryz.f67) ?_ ?_⟩ <;> kernel_rfl
@[go_sem] theorem fr163 : Fct T 163 false none false ∧ Res1 T 163 100 := by refine ⟨⟨?_, ?_, ?_⟩, res1 T (F := Tryz.f163) ?_ ?_⟩ <;> kernel_rfl
def r67_0 := nv 2 Tryz.f67
def r67_1 := nv 12 Tryz.f67
def r67_2 := nv 26 Tryz.f67
def r67_3 := nv 108 Tryz.f67
def r67_4 := nv 14 Tryz.f67
theorem ent67 : Ent T 67 29 (.seq (r67_0) (.seq (.seq (r67_1) (.seq (r67_2) (.cond (.tmp 14) (.seq (r67_3) (.ret)) (.skip)))) (.seq (r67_4) (.ret)))) := entI T (F := Tryz.f67) (by kernel_rfl) (by kernel_rfl) (by kernel_rfl)
@[go_sem ↓] theorem run67 : RR r67_0 [oo 2 (.box 106 (.tmp 0)), oo 3 (.box 100 (.tmp 1)), oo 4 (.alloc 100), oo 5 (oi 0)] ∧ RD r67_1 67 [oo 7 (oL 106 2), oo 8 (o1 160 7 106), oo 9 (oL 100 3), oo 10 (o1 161 9 100), oo 11 (.buildSlice 187 2 #[(0, .tmp 8), (1, .tmp 10)]), oo 12 (o1 114 11 187), oo 6 (oG 12)] [(0, 2), (1, 2)] ∧ RR r67_2 [oo 13 (oM 6), oo 14 (oC .neq 29 13 0)] ∧ RR r67_3 [oo 15 (.build 100 #[]), oo 16 (oM 6), ow 100 4 15, oo 5 (oG 16)] ∧ RD r67_4 67 [oo 17 (oF 106 2 0), oo 18 (oL 3 17), oo 19 (.binOp .sub 3 (.const (.int .i64 4)) (.tmp 18) 3), oo 20 (oC .rem 3 19 4), oo 21 (.indexAddr 231 (.global 0) (.tmp 20)), oo 22 (oF 230 21 1), oo 23 (oL 228 22), oo 24 (oL 100 3), oo 25 (oF 106 2 1), oo 26 (oL 100 25), oo 27 (o2 163 24 26 100 100), oo 28 (.call ⟨.value (.tmp 23), #[.tmp 27], #[100]⟩), ow 100 4 28, oo 5 (oi 0)] [(0, 7), (1, 7), (2, 7), (3, 7), (4, 7), (5, 7), (6, 7), (0, 8), (1, 8), (2, 8), (3, 8), (4, 8), (5, 8), (6, 8), (7, 8), (0, 9), (1, 9), (2, 9), (3, 9), (4, 9), (5, 9), (6, 9), (7, 9), (0, 10), (1, 10), (2, 10), (3, 10), (4, 10), (5, 10), (6, 10)] ∧ FinF T 67 [.cell 4 100, .tmp 5] false := by refine ⟨runR T ?_, runD T (id := 1) ?_ ?_, runR T ?_, runR T ?_, runD T (id := 4) ?_ ?_, finI T (F := Tryz.f67) ?_ ?_ ?_⟩ <;> kernel_rfl
@[go_sem] theorem fr68 : Fct T 68 false none false ∧ Res2 T 68 106 28 [29] := by refine ⟨⟨?_, ?_, ?_⟩, res2 T (F := Tryz.f68) ?_ ?_⟩ <;> kernel_rfl
@[go_sem] theorem fr141 : Fct T 141 false none false ∧ Res1 T 141 187 := by refine ⟨⟨?_, ?_, ?_⟩, res1 T (F := Tryz.f141) ?_ ?_⟩ <;> kernel_rfl
def r68_0 := nv 2 Tryz.f68
def r68_1 := nv 12 Tryz.f68
def r68_2 := nv 26 Tryz.f68
def r68_3 := nv 108 Tryz.f68
def r68_4 := nv 14 Tryz.f68
def r68_5 := nv 30 Tryz.f68
def r68_6 := nv 124 Tryz.f68
def b68_0 := nv 500 Tryz.f68
def r68_7 := nv 1000 Tryz.f68
def r68_8 := nv 16024 Tryz.f68
def r68_9 := nv 32050 Tryz.f68
def b68_1 := nv 128204 Tryz.f68
def r68_10 := nv 256408 Tryz.f68
def r68_11 := nv 4102552 Tryz.f68
def r68_12 := nv 8205106 Tryz.f68
def r68_13 := nv 16410214 Tryz.f68
def r68_14 := nv 65640860 Tryz.f68
def r68_15 := nv 65640862 Tryz.f68
def r68_16 := nv 262563452 Tryz.f68
def b68_2 := nv 1050253812 Tryz.f68
def r68_17 := nv 2100507624 Tryz.f68
def r68_18 := nv 33608122008 Tryz.f68
def r68_19 := nv 67216244018 Tryz.f68
def r68_20 := nv 134432488038 Tryz.f68
def r68_21 := nv 8402030503 Tryz.f68
def r68_22 := nv 262563454 Tryz.f68
def r68_23 := nv 525126910 Tryz.f68
def r68_24 := nv 1025639 Tryz.f68
def r68_25 := nv 4007 Tryz.f68
def r68_26 := nv 252 Tryz.f68
def r68_27 := nv 1012 Tryz.f68
def r68_28 := nv 254 Tryz.f68
theorem ent68 : Ent T 68 97 (.seq (r68_0) (.seq (.seq (r68_1) (.seq (r68_2) (.cond (.tmp 35) (.seq (r68_3) (.ret)) (.skip)))) (.seq (r68_4) (.seq (r68_5) (.seq (.seq (r68_6) (.block 0 (.loop b68_0))) (.seq (.seq (r68_26) (.cond (.tmp 93) (.seq (r68_27) (.ret)) (.skip))) (.seq (r68_28) (.ret)))))))) := entI T (F := Tryz.f68) (by kernel_rfl) (by kernel_rfl) (by kernel_rfl)
@[go_sem ↓] theorem run68 : RR r68_0 [oo 4 (.alloc 106), oo 5 on, oo 6 (oi 0)] ∧ RR r68_1 [oo 17 (oM 0), oo 18 (oN 17 48), oo 19 (.call ⟨.value (.func 112), #[.tmp 18, .const (.int .i64 8)], #[3, 3]⟩), oo 20 (oM 0), oo 21 (.call ⟨.value (.func 141), #[.tmp 20, .func 161], #[48, 213]⟩), oo 22 (o1 114 21 187), oo 23 (oM 1), oo 24 (oN 23 48), oo 25 (oM 0), oo 26 (oN 25 48), oo 27 (oB .neq 3 24 26), oo 28 (.call ⟨.value (.func 115), #[.tmp 27, .const (.int .i64 2)], #[4, 29]⟩), oo 29 (oM 1), oo 30 (.call ⟨.value (.func 141), #[.tmp 29, .func 161], #[48, 213]⟩), oo 31 (o1 114 30 187), oo 32 (.buildSlice 187 4 #[(0, .tmp 19), (1, .tmp 22), (2, .tmp 28), (3, .tmp 31)]), oo 33 (o1 114 32 187), oo 7 (oG 33)] ∧ RR r68_2 [oo 34 (oM 7), oo 35 (oC .neq 29 34 0)] ∧ RR r68_3 [oo 36 (.build 106 #[]), oo 37 (oM 7), ow 106 4 36, oo 5 on, oo 6 (oG 37)] ∧ RR r68_4 [oo 8 (.alloc 106)] ∧ RR r68_5 [oo 9 on] ∧ RR r68_6 [oo 38 (.move (.const (.int .i64 0)))] ∧ RR r68_7 [oo 39 (oC .lss 3 38 4)] ∧ RR r68_8 [oo 40 (oM 38), oo 10 (oG 40)] ∧ RR r68_9 [oo 41 (oM 0), oo 42 (oN 41 48), oo 43 (.move (.const (.int .i64 0)))] ∧ RR r68_10 [oo 44 (oB .lss 3 43 42)] ∧ RR r68_11 [oo 45 (oM 43), oo 46 (oI 48 41 43), oo 47 (oL 100 46), oo 12 (.alloc 100), oo 11 (oG 45), ow 100 12 47] ∧ RR r68_12 [oo 48 (oM 10), oo 49 (.build 106 #[(0, .tmp 48)]), oo 13 (.alloc 106), ow 106 13 49] ∧ RD r68_13 68 [oo 50 (oM 1), oo 51 (oM 11), oo 52 (oI 48 50 51), oo 53 (oL 100 52), oo 54 (oL 106 13), oo 55 (oL 100 12), oo 56 (o2 162 54 55 106 100), oo 57 (o2 163 53 56 100 100), oo 58 (oF 106 13 1), ow 100 58 57] [(0, 1), (0, 4), (1, 4), (2, 4), (3, 4), (0, 5), (1, 5), (2, 5), (3, 5), (4, 5), (0, 6), (1, 6), (2, 6), (3, 6)] ∧ RR r68_14 [oo 59 (oL 106 13), oo 60 (o1 160 59 106), oo 61 (oC .neq 29 60 0)] ∧ RR r68_15 [oo 14 on] ∧ RR r68_16 [oo 62 (oM 0), oo 63 (oN 62 48), oo 64 (.move (.const (.int .i64 0)))] ∧ RR r68_17 [oo 65 (oB .lss 3 64 63)] ∧ RR r68_18 [oo 66 (oM 64), oo 67 (oI 48 62 64), oo 68 (oL 100 67), oo 16 (.alloc 100), oo 15 (oG 66), ow 100 16 68] ∧ RD r68_19 68 [oo 69 (oL 106 13), oo 70 (oL 100 16), oo 71 (o2 162 69 70 106 100), oo 72 (oM 1), oo 73 (oM 15), oo 74 (oI 48 72 73), oo 75 (oL 100 74), oo 76 (oB .eql 100 71 75)] [(0, 1), (0, 3), (1, 3), (2, 3), (0, 4), (1, 4), (2, 4), (3, 4), (0, 5), (1, 5), (2, 5), (0, 6), (1, 6), (2, 6)] ∧ RR r68_20 [oo 77 (oM 14), oo 78 (oM 15), oo 79 (oS 28 78), oo 80 (oA 77 79 28), oo 14 (oG 80)] ∧ RR r68_21 [oo 81 (oC .add 3 64 1), oo 64 (oM 81)] ∧ RI b68_2 (.seq (r68_17) (.seq (.cond (.tmp 65) (.skip) (.exit 4)) (.seq (.block 5 (.seq (r68_18) (.seq (r68_19) (.cond (.tmp 76) (r68_20) (.skip))))) (r68_21)))) ∧ KeepS T 68 b68_2 [0, 1, 4, 8, 9, 10, 13, 14, 38, 41, 42, 43, 62, 63, 64] ∧ RR r68_22 [oo 82 (oM 14), oo 83 (oN 82 28), oo 84 (oM 9), oo 85 (oN 84 28), oo 86 (oB .gtr 3 83 85)] ∧ RR r68_23 [oo 87 (oL 106 13), oo 88 (oM 14), ow 106 8 87, oo 9 (oG 88)] ∧ RR r68_24 [oo 89 (oC .add 3 43 1), oo 43 (oM 89)] ∧ RI b68_1 (.seq (r68_10) (.seq (.cond (.tmp 44) (.skip) (.exit 2)) (.seq (.block 3 (.seq (r68_11) (.seq (r68_12) (.seq (r68_13) (.seq (.seq (r68_14) (.cond (.tmp 61) (.exit 3) (.skip))) (.seq (r68_15) (.seq (.seq (r68_16) (.block 4 (.loop b68_2))) (.seq (r68_22) (.cond (.tmp 86) (r68_23) (.skip)))))))))) (r68_24)))) ∧ KeepS T 68 b68_1 [0, 1, 4, 8, 9, 10, 38, 41, 42, 43] ∧ RR r68_25 [oo 90 (oC .add 3 38 1), oo 38 (oM 90)] ∧ RI b68_0 (.seq (r68_7) (.seq (.cond (.tmp 39) (.skip) (.exit 0)) (.seq (.block 1 (.seq (r68_8) (.seq (r68_9) (.block 2 (.loop b68_1))))) (r68_25)))) ∧ KeepS T 68 b68_0 [0, 1, 4, 8, 9, 38] ∧ RR r68_26 [oo 91 (oM 9), oo 92 (oN 91 28), oo 93 (oC .eql 3 92 0)] ∧ RR r68_27 [oo 94 (.build 106 #[]), ow 106 4 94, oo 5 on, oo 6 (oi 7)] ∧ RR r68_28 [oo 95 (oL 106 8), oo 96 (oM 9), ow 106 4 95, oo 5 (oG 96), oo 6 (oi 0)] ∧ FinF T 68 [.cell 4 106, .tmp 5, .tmp 6] false := by refine ⟨runR T ?_, runR T ?_, runR T ?_, runR T ?_, runR T ?_, runR T ?_, runR T ?_, runR T ?_, runR T ?_, runR T ?_, runR T ?_, runR T ?_, runR T ?_, runD T (id := 13) ?_ ?_, runR T ?_, runR T ?_, runR T ?_, runR T ?_, runR T ?_, runD T (id := 19) ?_ ?_, runR T ?_, runR T ?_, runIc T ?_, keepS T ?_, runR T ?_, runR T ?_, runR T ?_, runIc T ?_, keepS T ?_, runR T ?_, runIc T ?_, keepS T ?_, runR T ?_, runR T ?_, runR T ?_, finI T (F := Tryz.f68) ?_ ?_ ?_⟩ <;> kernel_rfl
@[go_sem] theorem fr69 : Fct T 69 false none false ∧ Res1 T 69 3 := by refine ⟨⟨?_, ?_, ?_⟩, res1 T (F := Tryz.f69) ?_ ?_⟩ <;> kernel_rfl
@[go_sem] theorem fr70 : Fct T 70 false none false ∧ Res1 T 70 3 := by refine ⟨⟨?_, ?_, ?_⟩, res1 T (F := Tryz.f70) ?_ ?_⟩ <;> kernel_rfl
def r69_0 := nv 2 Tryz.f69
def r69_1 := nv 6 Tryz.f69
theorem ent69 : Ent T 69 11 (.seq (r69_0) (.seq (r69_1) (.ret))) := entI T (F := Tryz.f69) (by kernel_rfl) (by kernel_rfl) (by kernel_rfl)
@[go_sem ↓] theorem run69 : RR r69_0 [oo 1 (.box 102 (.tmp 0)), oo 2 (oi 0)] ∧ RD r69_1 69 [oo 3 (oF 102 1 0), oo 4 (oL 3 3), oo 5 (.call ⟨.value (.func 90), #[.tmp 4, .const (.int .i64 0), .const (.int .i64 3)], #[3, 3, 3]⟩), oo 6 (oF 102 1 1), oo 7 (oL 100 6), oo 8 (o1 70 7 100), oo 9 (.buildSlice 28 2 #[(0, .tmp 5), (1, .tmp 8)]), oo 10 (o1 108 9 28), oo 2 (oG 10)] [(0, 3), (1, 3), (2, 3), (0, 4), (1, 4), (2, 4)] ∧ FinF T 69 [.tmp 2] false := by refine ⟨runR T ?_, runD T (id := 1) ?_ ?_, finI T (F := Tryz.f69) ?_ ?_ ?_⟩ <;> kernel_rfl
def r70_0 := nv 2 Tryz.f70
def r70_1 := nv 6 Tryz.f70
theorem ent70 : Ent T 70 11 (.seq (r70_0) (.seq (r70_1) (.ret))) := entI T (F := Tryz.f70) (by kernel_rfl) (by kernel_rfl) (by kernel_rfl)
@[go_sem ↓] theorem run70 : RR r70_0 [oo 1 (.box 100 (.tmp 0)), oo 2 (oi 0)] ∧ RD r70_1 70 [oo 3 (oF 100 1 0), oo 4 (oL 3 3), oo 5 (.call ⟨.value (.func 90), #[.tmp 4, .const (.int .i64 (-1000)), .const (.int .i64 1000)], #[3, 3, 3]⟩), oo 6 (oF 100 1 1), oo 7 (oL 3 6), oo 8 (.call ⟨.value (.func 90), #[.tmp 7, .const (.int .i64 (-1000)), .const (.int .i64 1000)], #[3, 3, 3]⟩), oo 9 (.buildSlice 28 2 #[(0, .tmp 5), (1, .tmp 8)]), oo 10 (o1 108 9 28), oo 2 (oG 10)] [(0, 3), (1, 3), (2, 3), (0, 4), (1, 4), (2, 4)] ∧ FinF T 70 [.tmp 2] false := by refine ⟨runR T ?_, runD T (id := 1) ?_ ?_, finI T (F := Tryz.f70) ?_ ?_ ?_⟩ <;> kernel_rfl
@[go_sem] theorem fr91 : Fct T 91 false none false ∧ Res1 T 91 4 := by refine ⟨⟨?_, ?_, ?_⟩, res1 T (F := Tryz.f91) ?_ ?_⟩ <;> kernel_rfl
def r91_0 := nv 2 Tryz.f91
def r91_1 := nv 12 Tryz.f91
def b91_0 := nv 52 Tryz.f91
def r91_2 := nv 208 Tryz.f91
def r91_4 := nv 840 Tryz.f91
def r91_5 := nv 3364 Tryz.f91
def r91_3 := nv 211 Tryz.f91
def r91_6 := nv 14 Tryz.f91
theorem ent91 : Ent T 91 18 (.seq (r91_0) (.seq (.seq (r91_1) (.block 0 (.loop b91_0))) (.seq (r91_6) (.ret)))) := entI T (F := Tryz.f91) (by kernel_rfl) (by kernel_rfl) (by kernel_rfl)
@[go_sem ↓] theorem run91 : RR r91_0 [oo 3 (.box 100 (.tmp 1)), oo 4 (.assign (.const (.bool false)))] ∧ RR r91_1 [oo 5 (oi 0)] ∧ RR r91_2 [oo 6 (oM 5), oo 7 (oM 0), oo 8 (oN 7 48), oo 9 (oB .lss 3 6 8)] ∧ RD r91_4 91 [oo 12 (oM 0), oo 13 (oM 5), oo 14 (oI 48 12 13), oo 15 (oL 100 14), oo 16 (oL 100 3), oo 17 (oB .eql 100 15 16)] [(0, 1), (0, 4), (1, 4), (2, 4), (3, 4)] ∧ RR r91_5 [oo 4 (.assign (.const (.bool true)))] ∧ RR r91_3 [oo 10 (oM 5), oo 11 (oC .add 3 10 1), oo 5 (oG 11)] ∧ RI b91_0 (.seq (.seq (r91_2) (.cond (.tmp 9) (.skip) (.exit 0))) (.seq (.block 1 (.seq (r91_4) (.cond (.tmp 17) (.seq (r91_5) (.ret)) (.skip)))) (r91_3))) ∧ KeepS T 91 b91_0 [0, 3, 5] ∧ RR r91_6 [oo 4 (.assign (.const (.bool false)))] ∧ FinF T 91 [.tmp 4] false := by refine ⟨runR T ?_, runR T ?_, runR T ?_, runD T (id := 4) ?_ ?_, runR T ?_, runR T ?_, runIc T ?_, keepS T ?_, runR T ?_, finI T (F := Tryz.f91) ?_ ?_ ?_⟩ <;> kernel_rfl
def r141_0 := nv 2 Tryz.f141
def r141_1 := nv 6 Tryz.f141
def r141_2 := nv 28 Tryz.f141
def b141_0 := nv 116 Tryz.f141
def r141_3 := nv 232 Tryz.f141
def r141_4 := nv 3736 Tryz.f141
def r141_5 := nv 3737 Tryz.f141
def r141_6 := nv 935 Tryz.f141
def r141_7 := nv 30 Tryz.f141
theorem ent141 : Ent T 141 22 (.seq (r141_0) (.seq (r141_1) (.seq (.seq (r141_2) (.block 0 (.loop b141_0))) (.seq (r141_7) (.ret))))) := entI T (F := Tryz.f141) (by kernel_rfl) (by kernel_rfl) (by kernel_rfl)
@[go_sem ↓] theorem run141 : RR r141_0 [oo 4 on] ∧ RR r141_1 [oo 5 on] ∧ RR r141_2 [oo 8 (oM 0), oo 9 (oN 8 48), oo 10 (.move (.const (.int .i64 0)))] ∧ RR r141_3 [oo 11 (oB .lss 3 10 9)] ∧ RR r141_4 [oo 12 (oI 48 8 10), oo 13 (oL 100 12), oo 7 (.alloc 100), ow 100 7 13] ∧ RR r141_5 [oo 14 (oM 5), oo 15 (oM 1), oo 16 (oL 100 7), oo 17 (.call ⟨.value (.tmp 15), #[.tmp 16], #[100]⟩), oo 18 (oS 187 17), oo 19 (oA 14 18 187), oo 5 (oG 19)] ∧ RR r141_6 [oo 20 (oC .add 3 10 1), oo 10 (oM 20)] ∧ RI b141_0 (.seq (r141_3) (.seq (.cond (.tmp 11) (.skip) (.exit 0)) (.seq (.block 1 (.seq (r141_4) (r141_5))) (r141_6)))) ∧ KeepS T 141 b141_0 [1, 5, 8, 9, 10] ∧ RR r141_7 [oo 21 (oM 5), oo 4 (oG 21)] ∧ FinF T 141 [.tmp 4] false := by refine ⟨runR T ?_, runR T ?_, runR T ?_, runR T ?_, runR T ?_, runR T ?_, runR T ?_, runIc T ?_, keepS T ?_, runR T ?_, finI T (F := Tryz.f141) ?_ ?_ ?_⟩ <;> kernel_rfl
def r160_0 := nv 2 Tryz.f160
def r160_1 := nv 6 Tryz.f160
theorem ent160 : Ent T 160 11 (.seq (r160_0) (.seq (r160_1) (.ret))) := entI T (F := Tryz.f160) (by kernel_rfl) (by kernel_rfl) (by kernel_rfl)
@[go_sem ↓] theorem run160 : RR r160_0 [oo 1 (.box 106 (.tmp 0)), oo 2 (oi 0)] ∧ RD r160_1 160 [oo 3 (oF 106 1 0), oo 4 (oL 3 3), oo 5 (.call ⟨.value (.func 137), #[.tmp 4, .const (.int .i64 0), .const (.int .i64 3)], #[3, 3, 3]⟩), oo 6 (oF 106 1 1), oo 7 (oL 100 6), oo 8 (o1 161 7 100), oo 9 (.buildSlice 187 2 #[(0, .tmp 5), (1, .tmp 8)]), oo 10 (o1 114 9 187), oo 2 (oG 10)] [(0, 3), (1, 3), (2, 3), (0, 4), (1, 4), (2, 4)] ∧ FinF T 160 [.tmp 2] false := by refine ⟨runR T ?_, runD T (id := 1) ?_ ?_, finI T (F := Tryz.f160) ?_ ?_ ?_⟩ <;> kernel_rfl
def r161_0 := nv 2 Tryz.f161
def r161_1 := nv 6 Tryz.f161
theorem ent161 : Ent T 161 11 (.seq (r161_0) (.seq (r161_1) (.ret))) := entI T (F := Tryz.f161) (by kernel_rfl) (by kernel_rfl) (by kernel_rfl)
@[go_sem ↓] theorem run161 : RR r161_0 [oo 1 (.box 100 (.tmp 0)), oo 2 (oi 0)] ∧ RD r161_1 161 [oo 3 (oF 100 1 0), oo 4 (oL 3 3), oo 5 (.call ⟨.value (.func 137), #[.tmp 4, .const (.int .i64 (-1000)), .const (.int .i64 1000)], #[3, 3, 3]⟩), oo 6 (oF 100 1 1), oo 7 (oL 3 6), oo 8 (.call ⟨.value (.func 137), #[.tmp 7, .const (.int .i64 (-1000)), .const (.int .i64 1000)], #[3, 3, 3]⟩), oo 9 (.buildSlice 187 2 #[(0, .tmp 5), (1, .tmp 8)]), oo 10 (o1 114 9 187), oo 2 (oG 10)] [(0, 3), (1, 3), (2, 3), (0, 4), (1, 4), (2, 4)] ∧ FinF T 161 [.tmp 2] false := by refine ⟨runR T ?_, runD T (id := 1) ?_ ?_, finI T (F := Tryz.f161) ?_ ?_ ?_⟩ <;> kernel_rfl
def r162_0 := nv 2 Tryz.f162
def r162_1 := nv 6 Tryz.f162
theorem ent162 : Ent T 162 15 (.seq (r162_0) (.seq (r162_1) (.ret))) := entI T (F := Tryz.f162) (by kernel_rfl) (by kernel_rfl) (by kernel_rfl)
@[go_sem ↓] theorem run162 : RR r162_0 [oo 2 (.box 106 (.tmp 0)), oo 3 (.box 100 (.tmp 1)), oo 4 (.alloc 100)] ∧ RD r162_1 162 [oo 5 (oF 106 2 0), oo 6 (oL 3 5), oo 7 (.indexAddr 231 (.global 0) (.tmp 6)), oo 8 (oF 230 7 1), oo 9 (oL 228 8), oo 10 (oL 100 3), oo 11 (.call ⟨.value (.tmp 9), #[.tmp 10], #[100]⟩), oo 12 (oF 106 2 1), oo 13 (oL 100 12), oo 14 (o2 152 11 13 100 100), ow 100 4 14] [(0, 5), (1, 5), (2, 5), (3, 5), (4, 5), (0, 7), (1, 7), (2, 7), (3, 7), (4, 7), (5, 7), (6, 7), (0, 8), (1, 8), (2, 8), (3, 8), (4, 8), (5, 8), (6, 8)] ∧ FinF T 162 [.cell 4 100] false := by refine ⟨runR T ?_, runD T (id := 1) ?_ ?_, finI T (F := Tryz.f162) ?_ ?_ ?_⟩ <;> kernel_rfl
def r163_0 := nv 2 Tryz.f163
def r163_1 := nv 6 Tryz.f163
theorem ent163 : Ent T 163 16 (.seq (r163_0) (.seq (r163_1) (.ret))) := entI T (F := Tryz.f163) (by kernel_rfl) (by kernel_rfl) (by kernel_rfl)
@[go_sem ↓] theorem run163 : RR r163_0 [oo 2 (.box 100 (.tmp 0)), oo 3 (.box 100 (.tmp 1)), oo 4 (.alloc 100)] ∧ RR r163_1 [oo 5 (oF 100 2 0), oo 6 (oL 3 5), oo 7 (oF 100 3 0), oo 8 (oL 3 7), oo 9 (oB .sub 3 6 8), oo 10 (oF 100 2 1), oo 11 (oL 3 10), oo 12 (oF 100 3 1), oo 13 (oL 3 12), oo 14 (oB .sub 3 11 13), oo 15 (.build 100 #[(0, .tmp 9), (1, .tmp 14)]), ow 100 4 15] ∧ FinF T 163 [.cell 4 100] false := by refine ⟨runR T ?_, runR T ?_, finI T (F := Tryz.f163) ?_ ?_ ?_⟩ <;> kernel_rfl
@[go_sem] theorem fr47 : Fct T 47 false none false ∧ Res1 T 47 48 := by refine ⟨⟨?_, ?_, ?_⟩, res1 T (F := Tryz.f47) ?_ ?_⟩ <;> kernel_rfl
def r47_0 := nv 2 Tryz.f47
def r47_1 := nv 6 Tryz.f47
theorem ent47 : Ent T 47 6 (.seq (r47_0) (.seq (r47_1) (.ret))) := entI T (F := Tryz.f47) (by kernel_rfl) (by kernel_rfl) (by kernel_rfl)
@[go_sem ↓] theorem run47 : RR r47_0 [oo 2 on] ∧ RR r47_1 [oo 3 (.buildSlice 48 0 #[]), oo 4 (oM 0), oo 5 (oA 3 4 48), oo 2 (oG 5)] ∧ FinF T 47 [.tmp 2] false := by refine ⟨runR T ?_, runR T ?_, finI T (F := Tryz.f47) ?_ ?_ ?_⟩ <;> kernel_rfl
@[go_sem] theorem fct327 : Fct T 327 false none false := ⟨by kernel_rfl, by kernel_rfl, by kernel_rfl⟩
@[go_sem] theorem res327 : Res1 T 327 100 := res1 T (F := Tryz.f327) (by kernel_rfl) (by kernel_rfl)
def r327_0 := nv 2 Tryz.f327
def r327_1 := nv 6 Tryz.f327
theorem ent327 : Ent T 327 4 (.seq (r327_0) (.seq (r327_1) (.ret))) := entI T (F := Tryz.f327) (by kernel_rfl) (by kernel_rfl) (by kernel_rfl)
@[go_sem ↓] theorem run327 : RR r327_0 [oo 1 (.box 100 (.tmp 0)), oo 2 (.alloc 100)] ∧ RR r327_1 [oo 3 (oL 100 1), ow 100 2 3] ∧ FinF T 327 [.cell 2 100] false := by refine ⟨runR T ?_, runR T ?_, finI T (F := Tryz.f327) ?_ ?_ ?_⟩ <;> kernel_rfl
@[go_sem] theorem fct328 : Fct T 328 false none false := ⟨by kernel_rfl, by kernel_rfl, by kernel_rfl⟩
@[go_sem] theorem res328 : Res1 T 328 100 := res1 T (F := Tryz.f328) (by kernel_rfl) (by kernel_rfl)
def r328_0 := nv 2 Tryz.f328
def r328_1 := nv 6 Tryz.f328
theorem ent328 : Ent T 328 9 (.seq (r328_0) (.seq (r328_1) (.ret))) := entI T (F := Tryz.f328) (by kernel_rfl) (by kernel_rfl) (by kernel_rfl)
@[go_sem ↓] theorem run328 : RR r328_0 [oo 1 (.box 100 (.tmp 0)), oo 2 (.alloc 100)] ∧ RR r328_1 [oo 3 (oF 100 1 1), oo 4 (oL 3 3), oo 5 (.unOp .neg 3 (.tmp 4)), oo 6 (oF 100 1 0), oo 7 (oL 3 6), oo 8 (.build 100 #[(0, .tmp 5), (1, .tmp 7)]), ow 100 2 8] ∧ FinF T 328 [.cell 2 100] false := by refine ⟨runR T ?_, runR T ?_, finI T (F := Tryz.f328) ?_ ?_ ?_⟩ <;> kernel_rfl
@[go_sem] theorem fct329 : Fct T 329 false none false := ⟨by kernel_rfl, by kernel_rfl, by kernel_rfl⟩
@[go_sem] theorem res329 : Res1 T 329 100 := res1 T (F := Tryz.f329) (by kernel_rfl) (by kernel_rfl)
def r329_0 := nv 2 Tryz.f329
def r329_1 := nv 6 Tryz.f329
theorem ent329 : Ent T 329 10 (.seq (r329_0) (.seq (r329_1) (.ret))) := entI T (F := Tryz.f329) (by kernel_rfl) (by kernel_rfl) (by kernel_rfl)
@[go_sem ↓] theorem run329 : RR r329_0 [oo 1 (.box 100 (.tmp 0)), oo 2 (.alloc 100)] ∧ RR r329_1 [oo 3 (oF 100 1 0), oo 4 (oL 3 3), oo 5 (.unOp .neg 3 (.tmp 4)), oo 6 (oF 100 1 1), oo 7 (oL 3 6), oo 8 (.unOp .neg 3 (.tmp 7)), oo 9 (.build 100 #[(0, .tmp 5), (1, .tmp 8)]), ow 100 2 9] ∧ FinF T 329 [.cell 2 100] false := by refine ⟨runR T ?_, runR T ?_, finI T (F := Tryz.f329) ?_ ?_ ?_⟩ <;> kernel_rfl
@[go_sem] theorem fct330 : Fct T 330 false none false := ⟨by kernel_rfl, by kernel_rfl, by kernel_rfl⟩
@[go_sem] theorem res330 : Res1 T 330 100 := res1 T (F := Tryz.f330) (by kernel_rfl) (by kernel_rfl)
def r330_0 := nv 2 Tryz.f330
def r330_1 := nv 6 Tryz.f330
theorem ent330 : Ent T 330 9 (.seq (r330_0) (.seq (r330_1) (.ret))) := entI T (F := Tryz.f330) (by kernel_rfl) (by kernel_rfl) (by kernel_rfl)
@[go_sem ↓] theorem run330 : RR r330_0 [oo 1 (.box 100 (.tmp 0)), oo 2 (.alloc 100)] ∧ RR r330_1 [oo 3 (oF 100 1 1), oo 4 (oL 3 3), oo 5 (oF 100 1 0), oo 6 (oL 3 5), oo 7 (.unOp .neg 3 (.tmp 6)), oo 8 (.build 100 #[(0, .tmp 4), (1, .tmp 7)]), ow 100 2 8] ∧ FinF T 330 [.cell 2 100] false := by refine ⟨runR T ?_, runR T ?_, finI T (F := Tryz.f330) ?_ ?_ ?_⟩ <;> kernel_rfl
end Go.Den.FaT
end
