import Derived.Test.YtifljcjddphpjaaGreatDoorFaTab
import Derived.Test.YtifljcjddphpjaaGreatDoorZR
import Derived.Test.YtifljcjddphpjaaGreatDoorFaTi
set_option linter.all false
set_option maxHeartbeats 8000000
set_option maxRecDepth 100000
noncomputable section
namespace Go.Den.FaT
open Go Go.Proofs Go.Den
abbrev RR (c : Code) (os : List SO) : Prop := RunR T c os
abbrev RD (c : Code) (f : Nat) (os : List SO) (ps : List (Nat × Nat)) : Prop := RunD T c f os ps
abbrev RI (r c : Code) : Prop := RunIc T r c
@[go_sem] theorem fr16 : Fct T 16 false none false ∧ Res1 T 16 4 := by refine ⟨⟨?_, ?_, ?_⟩, res1 T (F := Tryz.f16) ?_ ?_⟩ <;> kernel_rfl
@[go_sem] theorem fr39 : Fct T 39 false none false ∧ Res1 T 39 3 := by refine ⟨⟨?_, ?_, ?_⟩, res1 T (F := Tryz.f39) ?_ ?_⟩ <;> kernel_rfl
@[go_sem] theorem fr108 : Fct T 108 false none false ∧ Res1 T 108 3 := by refine ⟨⟨?_, ?_, ?_⟩, res1 T (F := Tryz.f108) ?_ ?_⟩ <;> kernel_rfl
@[go_sem] theorem fr111 : Fct T 111 false none false ∧ Res1 T 111 3 := by refine ⟨⟨?_, ?_, ?_⟩, res1 T (F := Tryz.f111) ?_ ?_⟩ <;> kernel_rfl
@[go_sem] theorem fr114 : Fct T 114 false none false ∧ Res1 T 114 29 := by refine ⟨⟨?_, ?_, ?_⟩, res1 T (F := Tryz.f114) ?_ ?_⟩ <;> kernel_rfl
def r39_0 := nv 2 Tryz.f39
def r39_1 := nv 12 Tryz.f39
def r39_2 := nv 52 Tryz.f39
def r39_3 := nv 14 Tryz.f39
theorem ent39 : Ent T 39 7 (.seq (r39_0) (.seq (.seq (r39_1) (.cond (.tmp 5) (.seq (r39_2) (.ret)) (.skip))) (.seq (r39_3) (.ret)))) := entI T (F := Tryz.f39) (by kernel_rfl) (by kernel_rfl) (by kernel_rfl)
@[go_sem ↓] theorem run39 : RR r39_0 [oo 4 (oi 0)] ∧ RR r39_1 [oo 5 (oM 0)] ∧ RR r39_2 [oo 6 (oM 1), oo 4 (oG 6)] ∧ RR r39_3 [oo 4 (oi 0)] ∧ FinF T 39 [.tmp 4] false := by refine ⟨runR T ?_, runR T ?_, runR T ?_, runR T ?_, finI T (F := Tryz.f39) ?_ ?_ ?_⟩ <;> kernel_rfl
@[go_sem] theorem fr90 : Fct T 90 false none false ∧ Res1 T 90 3 := by refine ⟨⟨?_, ?_, ?_⟩, res1 T (F := Tryz.f90) ?_ ?_⟩ <;> kernel_rfl
def r90_0 := nv 2 Tryz.f90
def r90_1 := nv 6 Tryz.f90
theorem ent90 : Ent T 90 16 (.seq (r90_0) (.seq (r90_1) (.ret))) := entI T (F := Tryz.f90) (by kernel_rfl) (by kernel_rfl) (by kernel_rfl)
@[go_sem ↓] theorem run90 : RR r90_0 [oo 6 (oi 0)] ∧ RR r90_1 [oo 7 (oM 0), oo 8 (oM 1), oo 9 (oB .lss 3 7 8), oo 10 (oM 9), of 11 (oM 0) 10, of 12 (oM 2) 10, of 13 (oB .gtr 3 11 12) 10, oo 14 (.pick (.tmp 10) (.const (.bool true)) (.tmp 13)), oo 15 (.call ⟨.value (.func 39), #[.tmp 14, .const (.int .i64 3)], #[4, 3]⟩), oo 6 (oG 15)] ∧ FinF T 90 [.tmp 6] false := by refine ⟨runR T ?_, runR T ?_, finI T (F := Tryz.f90) ?_ ?_ ?_⟩ <;> kernel_rfl
@[go_sem] theorem fct183 : Fct T 183 false none false := ⟨by kernel_rfl, by kernel_rfl, by kernel_rfl⟩
@[go_sem] theorem res183 : Res1 T 183 3 := res1 T (F := Tryz.f183) (by kernel_rfl) (by kernel_rfl)
def r108_0 := nv 2 Tryz.f108
def r108_1 := nv 12 Tryz.f108
def b108_0 := nv 52 Tryz.f108
def r108_2 := nv 208 Tryz.f108
def r108_4 := nv 840 Tryz.f108
def r108_5 := nv 3364 Tryz.f108
def r108_3 := nv 211 Tryz.f108
def r108_6 := nv 14 Tryz.f108
theorem ent108 : Ent T 108 19 (.seq (r108_0) (.seq (.seq (r108_1) (.block 0 (.loop b108_0))) (.seq (r108_6) (.ret)))) := entI T (F := Tryz.f108) (by kernel_rfl) (by kernel_rfl) (by kernel_rfl)
@[go_sem ↓] theorem run108 : RR r108_0 [oo 2 (oi 0)] ∧ RR r108_1 [oo 3 (oi 0)] ∧ RR r108_2 [oo 4 (oM 3), oo 5 (oM 0), oo 6 (oN 5 28), oo 7 (oB .lss 3 4 6)] ∧ RR r108_4 [oo 10 (oM 0), oo 11 (oM 3), oo 12 (oI 28 10 11), oo 13 (oL 3 12), oo 14 (oC .neq 3 13 0)] ∧ RR r108_5 [oo 15 (oM 0), oo 16 (oM 3), oo 17 (oI 28 15 16), oo 18 (oL 3 17), oo 2 (oG 18)] ∧ RR r108_3 [oo 8 (oM 3), oo 9 (oC .add 3 8 1), oo 3 (oG 9)] ∧ RI b108_0 (.seq (.seq (r108_2) (.cond (.tmp 7) (.skip) (.exit 0))) (.seq (.block 1 (.seq (r108_4) (.cond (.tmp 14) (.seq (r108_5) (.ret)) (.skip)))) (r108_3))) ∧ KeepS T 108 b108_0 [0, 3] ∧ RR r108_6 [oo 2 (oi 0)] ∧ FinF T 108 [.tmp 2] false := by refine ⟨runR T ?_, runR T ?_, runR T ?_, runR T ?_, runR T ?_, runR T ?_, runIc T ?_, keepS T ?_, runR T ?_, finI T (F := Tryz.f108) ?_ ?_ ?_⟩ <;> kernel_rfl
def r111_0 := nv 2 Tryz.f111
def r111_1 := nv 12 Tryz.f111
def b111_0 := nv 52 Tryz.f111
def r111_2 := nv 208 Tryz.f111
def r111_4 := nv 840 Tryz.f111
def r111_5 := nv 3364 Tryz.f111
def b111_1 := nv 13460 Tryz.f111
def r111_6 := nv 53840 Tryz.f111
def r111_8 := nv 430736 Tryz.f111
def r111_9 := nv 861474 Tryz.f111
def r111_10 := nv 430738 Tryz.f111
def r111_11 := nv 861478 Tryz.f111
def r111_7 := nv 53843 Tryz.f111
def r111_12 := nv 3366 Tryz.f111
def r111_13 := nv 6734 Tryz.f111
def r111_14 := nv 26940 Tryz.f111
def r111_3 := nv 211 Tryz.f111
def r111_15 := nv 14 Tryz.f111
theorem ent111 : Ent T 111 60 (.seq (r111_0) (.seq (.seq (r111_1) (.block 0 (.loop b111_0))) (.seq (r111_15) (.ret)))) := entI T (F := Tryz.f111) (by kernel_rfl) (by kernel_rfl) (by kernel_rfl)
@[go_sem ↓] theorem run111 : RR r111_0 [oo 2 (oi 0)] ∧ RR r111_1 [oo 3 (oi 0)] ∧ RR r111_2 [oo 8 (oM 3), oo 9 (oM 0), oo 10 (oN 9 28), oo 11 (oB .lss 3 8 10)] ∧ RR r111_4 [oo 4 (oi 0), oo 5 (oi 0)] ∧ RR r111_5 [oo 6 (oi 0)] ∧ RR r111_6 [oo 14 (oM 6), oo 15 (oM 0), oo 16 (oN 15 28), oo 17 (oB .lss 3 14 16)] ∧ RD r111_8 111 [oo 20 (oM 0), oo 21 (oM 6), oo 22 (oI 28 20 21), oo 23 (oL 3 22), oo 24 (oM 0), oo 25 (oM 3), oo 26 (oI 28 24 25), oo 27 (oL 3 26), oo 28 (oB .lss 3 23 27)] [(0, 1), (0, 4), (1, 4), (2, 4), (3, 4), (0, 5), (1, 5), (2, 5), (3, 5), (4, 5), (0, 6), (1, 6), (2, 6), (3, 6), (0, 7), (1, 7), (2, 7), (3, 7)] ∧ RR r111_9 [oo 29 (oM 4), oo 30 (oC .add 3 29 1), oo 4 (oG 30)] ∧ RD r111_10 111 [oo 31 (oM 0), oo 32 (oM 6), oo 33 (oI 28 31 32), oo 34 (oL 3 33), oo 35 (oM 0), oo 36 (oM 3), oo 37 (oI 28 35 36), oo 38 (oL 3 37), oo 39 (oB .eql 3 34 38)] [(0, 1), (0, 4), (1, 4), (2, 4), (3, 4), (0, 5), (1, 5), (2, 5), (3, 5), (4, 5), (0, 6), (1, 6), (2, 6), (3, 6), (0, 7), (1, 7), (2, 7), (3, 7)] ∧ RR r111_11 [oo 40 (oM 5), oo 41 (oC .add 3 40 1), oo 5 (oG 41)] ∧ RR r111_7 [oo 18 (oM 6), oo 19 (oC .add 3 18 1), oo 6 (oG 19)] ∧ RI b111_1 (.seq (.seq (r111_6) (.cond (.tmp 17) (.skip) (.exit 2))) (.seq (.block 3 (.seq (.seq (r111_8) (.cond (.tmp 28) (r111_9) (.skip))) (.seq (r111_10) (.cond (.tmp 39) (r111_11) (.skip))))) (r111_7))) ∧ KeepS T 111 b111_1 [0, 3, 4, 5, 6] ∧ RR r111_12 [oo 42 (oM 0), oo 43 (oN 42 28), oo 44 (oC .sub 3 43 1), oo 45 (oC .quo 3 44 2), oo 7 (oG 45)] ∧ RR r111_13 [oo 46 (oM 4), oo 47 (oM 7), oo 48 (oB .leq 3 46 47), oo 49 (oM 48), ot 50 (oM 7) 49, ot 51 (oM 4) 49, ot 52 (oM 5) 49, ot 53 (oB .add 3 51 52) 49, ot 54 (oB .lss 3 50 53) 49, oo 55 (.pick (.tmp 49) (.tmp 54) (.const (.bool false)))] ∧ RR r111_14 [oo 56 (oM 0), oo 57 (oM 3), oo 58 (oI 28 56 57), oo 59 (oL 3 58), oo 2 (oG 59)] ∧ RR r111_3 [oo 12 (oM 3), oo 13 (oC .add 3 12 1), oo 3 (oG 13)] ∧ RI b111_0 (.seq (.seq (r111_2) (.cond (.tmp 11) (.skip) (.exit 0))) (.seq (.block 1 (.seq (r111_4) (.seq (.seq (r111_5) (.block 2 (.loop b111_1))) (.seq (r111_12) (.seq (r111_13) (.cond (.tmp 55) (.seq (r111_14) (.ret)) (.skip))))))) (r111_3))) ∧ KeepS T 111 b111_0 [0, 3] ∧ RR r111_15 [oo 2 (oi 0)] ∧ FinF T 111 [.tmp 2] false := by refine ⟨runR T ?_, runR T ?_, runR T ?_, runR T ?_, runR T ?_, runR T ?_, runD T (id := 8) ?_ ?_, runR T ?_, runD T (id := 10) ?_ ?_, runR T ?_, runR T ?_, runIc T ?_, keepS T ?_, runR T ?_, runR T ?_, runR T ?_, runR T ?_, runIc T ?_, keepS T ?_, runR T ?_, finI T (F := Tryz.f111) ?_ ?_ ?_⟩ <;> kernel_rfl
@[go_sem] theorem fr115 : Fct T 115 false none false ∧ Res1 T 115 29 := by refine ⟨⟨?_, ?_, ?_⟩, res1 T (F := Tryz.f115) ?_ ?_⟩ <;> kernel_rfl
def r114_0 := nv 2 Tryz.f114
def r114_1 := nv 12 Tryz.f114
def b114_0 := nv 52 Tryz.f114
def r114_2 := nv 104 Tryz.f114
def r114_3 := nv 1688 Tryz.f114
def r114_4 := nv 3378 Tryz.f114
def r114_5 := nv 13516 Tryz.f114
def r114_6 := nv 423 Tryz.f114
def r114_7 := nv 14 Tryz.f114
theorem ent114 : Ent T 114 15 (.seq (r114_0) (.seq (.seq (r114_1) (.block 0 (.loop b114_0))) (.seq (r114_7) (.ret)))) := entI T (F := Tryz.f114) (by kernel_rfl) (by kernel_rfl) (by kernel_rfl)
@[go_sem ↓] theorem run114 : RR r114_0 [oo 2 (oi 0)] ∧ RR r114_1 [oo 5 (oM 0), oo 6 (oN 5 187), oo 7 (.move (.const (.int .i64 0)))] ∧ RR r114_2 [oo 8 (oB .lss 3 7 6)] ∧ RR r114_3 [oo 9 (oI 187 5 7), oo 10 (oL 29 9), oo 4 (oG 10)] ∧ RR r114_4 [oo 11 (oM 4), oo 12 (oC .neq 29 11 0)] ∧ RR r114_5 [oo 13 (oM 4), oo 2 (oG 13)] ∧ RR r114_6 [oo 14 (oC .add 3 7 1), oo 7 (oM 14)] ∧ RI b114_0 (.seq (r114_2) (.seq (.cond (.tmp 8) (.skip) (.exit 0)) (.seq (.block 1 (.seq (r114_3) (.seq (r114_4) (.cond (.tmp 12) (.seq (r114_5) (.ret)) (.skip))))) (r114_6)))) ∧ KeepS T 114 b114_0 [5, 6, 7] ∧ RR r114_7 [oo 2 (oi 0)] ∧ FinF T 114 [.tmp 2] false := by refine ⟨runR T ?_, runR T ?_, runR T ?_, runR T ?_, runR T ?_, runR T ?_, runR T ?_, runIc T ?_, keepS T ?_, runR T ?_, finI T (F := Tryz.f114) ?_ ?_ ?_⟩ <;> kernel_rfl
def r115_0 := nv 2 Tryz.f115
def r115_1 := nv 12 Tryz.f115
def r115_2 := nv 52 Tryz.f115
def r115_3 := nv 14 Tryz.f115
theorem ent115 : Ent T 115 7 (.seq (r115_0) (.seq (.seq (r115_1) (.cond (.tmp 5) (.seq (r115_2) (.ret)) (.skip))) (.seq (r115_3) (.ret)))) := entI T (F := Tryz.f115) (by kernel_rfl) (by kernel_rfl) (by kernel_rfl)
@[go_sem ↓] theorem run115 : RR r115_0 [oo 4 (oi 0)] ∧ RR r115_1 [oo 5 (oM 0)] ∧ RR r115_2 [oo 6 (oM 1), oo 4 (oG 6)] ∧ RR r115_3 [oo 4 (oi 0)] ∧ FinF T 115 [.tmp 4] false := by refine ⟨runR T ?_, runR T ?_, runR T ?_, runR T ?_, finI T (F := Tryz.f115) ?_ ?_ ?_⟩ <;> kernel_rfl
@[go_sem] theorem fr137 : Fct T 137 false none false ∧ Res1 T 137 29 := by refine ⟨⟨?_, ?_, ?_⟩, res1 T (F := Tryz.f137) ?_ ?_⟩ <;> kernel_rfl
def r137_0 := nv 2 Tryz.f137
def r137_1 := nv 6 Tryz.f137
theorem ent137 : Ent T 137 16 (.seq (r137_0) (.seq (r137_1) (.ret))) := entI T (F := Tryz.f137) (by kernel_rfl) (by kernel_rfl) (by kernel_rfl)
@[go_sem ↓] theorem run137 : RR r137_0 [oo 6 (oi 0)] ∧ RR r137_1 [oo 7 (oM 0), oo 8 (oM 1), oo 9 (oB .lss 3 7 8), oo 10 (oM 9), of 11 (oM 0) 10, of 12 (oM 2) 10, of 13 (oB .gtr 3 11 12) 10, oo 14 (.pick (.tmp 10) (.const (.bool true)) (.tmp 13)), oo 15 (.call ⟨.value (.func 115), #[.tmp 14, .const (.int .i64 3)], #[4, 29]⟩), oo 6 (oG 15)] ∧ FinF T 137 [.tmp 6] false := by refine ⟨runR T ?_, runR T ?_, finI T (F := Tryz.f137) ?_ ?_ ?_⟩ <;> kernel_rfl
@[go_sem] theorem fct229 : Fct T 229 true none false := ⟨by kernel_rfl, by kernel_rfl, by kernel_rfl⟩
@[go_sem] theorem res229 : Res0 T 229 := res0 T (F := Tryz.f229) (by kernel_rfl) (by kernel_rfl)
def r183_0 := nv 2 Tryz.f183
def r183_1 := nv 6 Tryz.f183
def r183_2 := nv 14 Tryz.f183
def r183_3 := nv 30 Tryz.f183
def r183_4 := nv 62 Tryz.f183
theorem ent183 : Ent T 183 19 (.seq (r183_0) (.seq (r183_1) (.seq (r183_2) (.seq (r183_3) (.seq (r183_4) (.ret)))))) := entI T (F := Tryz.f183) (by kernel_rfl) (by kernel_rfl) (by kernel_rfl)
@[go_sem ↓] theorem run183 : RR r183_0 [oo 2 (oi 0)] ∧ RR r183_1 [oo 4 (oM 0), oo 5 (oN 4 28), oo 6 (.makeSlice 28 (.tmp 5) (.tmp 5)), oo 3 (oG 6)] ∧ RR r183_2 [oo 7 (oM 3), oo 8 (oM 0), oo 9 (.call ⟨.builtin .copy, #[.tmp 7, .tmp 8], #[28, 28]⟩)] ∧ RR r183_3 [oo 10 (oM 3), oo 11 (o1 229 10 28)] ∧ RR r183_4 [oo 12 (oM 3), oo 13 (oM 3), oo 14 (oN 13 28), oo 15 (oC .sub 3 14 1), oo 16 (oC .quo 3 15 2), oo 17 (oI 28 12 16), oo 18 (oL 3 17), oo 2 (oG 18)] ∧ FinF T 183 [.tmp 2] false := by refine ⟨runR T ?_, runR T ?_, runR T ?_, runR T ?_, runR T ?_, finI T (F := Tryz.f183) ?_ ?_ ?_⟩ <;> kernel_rfl
@[go_sem] theorem fr30 : Fct T 30 false none false ∧ Res1 T 30 3 := by refine ⟨⟨?_, ?_, ?_⟩, res1 T (F := Tryz.f30) ?_ ?_⟩ <;> kernel_rfl
def r30_0 := nv 2 Tryz.f30
def r30_1 := nv 6 Tryz.f30
theorem ent30 : Ent T 30 5 (.seq (r30_0) (.seq (r30_1) (.ret))) := entI T (F := Tryz.f30) (by kernel_rfl) (by kernel_rfl) (by kernel_rfl)
@[go_sem ↓] theorem run30 : RR r30_0 [oo 2 (oi 0)] ∧ RR r30_1 [oo 3 (oM 0), oo 4 (o1 108 3 28), oo 2 (oG 4)] ∧ FinF T 30 [.tmp 2] false := by refine ⟨runR T ?_, runR T ?_, finI T (F := Tryz.f30) ?_ ?_ ?_⟩ <;> kernel_rfl
@[go_sem] theorem fr35 : Fct T 35 false none false ∧ Res1 T 35 4 := by refine ⟨⟨?_, ?_, ?_⟩, res1 T (F := Tryz.f35) ?_ ?_⟩ <;> kernel_rfl
@[go_sem] theorem fr103 : Fct T 103 false none false ∧ Res1 T 103 4 := by refine ⟨⟨?_, ?_, ?_⟩, res1 T (F := Tryz.f103) ?_ ?_⟩ <;> kernel_rfl
def r35_0 := nv 2 Tryz.f35
def r35_1 := nv 12 Tryz.f35
def r35_2 := nv 26 Tryz.f35
def r35_3 := nv 14 Tryz.f35
theorem ent35 : Ent T 35 19 (.seq (r35_0) (.seq (.seq (r35_1) (.cond (.tmp 10) (r35_2) (.skip))) (.seq (r35_3) (.ret)))) := entI T (F := Tryz.f35) (by kernel_rfl) (by kernel_rfl) (by kernel_rfl)
@[go_sem ↓] theorem run35 : RR r35_0 [oo 8 (.assign (.const (.bool false)))] ∧ RR r35_1 [oo 9 (oM 2), oo 10 (oC .neq 3 9 0)] ∧ RR r35_2 [oo 3 on] ∧ RR r35_3 [oo 11 (oM 0), oo 12 (oM 3), oo 13 (o2 103 11 12 48 48), oo 14 (oM 13), ot 15 (oM 1) 14, ot 16 (oM 2) 14, ot 17 (oB .eql 3 15 16) 14, oo 18 (.pick (.tmp 14) (.tmp 17) (.const (.bool false))), oo 8 (oG 18)] ∧ FinF T 35 [.tmp 8] false := by refine ⟨runR T ?_, runR T ?_, runR T ?_, runR T ?_, finI T (F := Tryz.f35) ?_ ?_ ?_⟩ <;> kernel_rfl
@[go_sem] theorem fr55 : Fct T 55 false none false ∧ Res1 T 55 4 := by refine ⟨⟨?_, ?_, ?_⟩, res1 T (F := Tryz.f55) ?_ ?_⟩ <;> kernel_rfl
def r55_0 := nv 2 Tryz.f55
def r55_1 := nv 6 Tryz.f55
theorem ent55 : Ent T 55 7 (.seq (r55_0) (.seq (r55_1) (.ret))) := entI T (F := Tryz.f55) (by kernel_rfl) (by kernel_rfl) (by kernel_rfl)
@[go_sem ↓] theorem run55 : RR r55_0 [oo 1 (.box 82 (.tmp 0)), oo 2 (.assign (.const (.bool false)))] ∧ RR r55_1 [oo 3 (oF 82 1 2), oo 4 (oL 80 3), oo 5 (oN 4 80), oo 6 (oC .leq 3 5 64), oo 2 (oG 6)] ∧ FinF T 55 [.tmp 2] false := by refine ⟨runR T ?_, runR T ?_, finI T (F := Tryz.f55) ?_ ?_ ?_⟩ <;> kernel_rfl
@[go_sem] theorem fr56 : Fct T 56 false none false ∧ Res2 T 56 48 29 [] := by refine ⟨⟨?_, ?_, ?_⟩, res2 T (F := Tryz.f56) ?_ ?_⟩ <;> kernel_rfl
@[go_sem] theorem fr150 : Fct T 150 false none false ∧ Res1 T 150 29 := by refine ⟨⟨?_, ?_, ?_⟩, res1 T (F := Tryz.f150) ?_ ?_⟩ <;> kernel_rfl
@[go_sem] theorem fr151 : Fct T 151 false none false ∧ Res1 T 151 48 := by refine ⟨⟨?_, ?_, ?_⟩, res1 T (F := Tryz.f151) ?_ ?_⟩ <;> kernel_rfl
def r56_0 := nv 2 Tryz.f56
def r56_1 := nv 12 Tryz.f56
def r56_2 := nv 26 Tryz.f56
def r56_3 := nv 108 Tryz.f56
def r56_4 := nv 14 Tryz.f56
theorem ent56 : Ent T 56 16 (.seq (r56_0) (.seq (.seq (r56_1) (.seq (r56_2) (.cond (.tmp 11) (.seq (r56_3) (.ret)) (.skip)))) (.seq (r56_4) (.ret)))) := entI T (F := Tryz.f56) (by kernel_rfl) (by kernel_rfl) (by kernel_rfl)
@[go_sem ↓] theorem run56 : RR r56_0 [oo 2 (.box 85 (.tmp 0)), oo 4 on, oo 5 (oi 0)] ∧ RR r56_1 [oo 7 (oL 85 2), oo 8 (oM 1), oo 9 (o2 150 7 8 85 3), oo 6 (oG 9)] ∧ RR r56_2 [oo 10 (oM 6), oo 11 (oC .neq 29 10 0)] ∧ RR r56_3 [oo 12 (oM 6), oo 4 on, oo 5 (oG 12)] ∧ RR r56_4 [oo 13 (oL 85 2), oo 14 (oM 1), oo 15 (o2 151 13 14 85 3), oo 4 (oG 15), oo 5 (oi 0)] ∧ FinF T 56 [.tmp 4, .tmp 5] false := by refine ⟨runR T ?_, runR T ?_, runR T ?_, runR T ?_, runR T ?_, finI T (F := Tryz.f56) ?_ ?_ ?_⟩ <;> kernel_rfl
@[go_sem] theorem fr57 : Fct T 57 false none false ∧ Res1 T 57 85 := by refine ⟨⟨?_, ?_, ?_⟩, res1 T (F := Tryz.f57) ?_ ?_⟩ <;> kernel_rfl
def r57_0 := nv 2 Tryz.f57
def r57_1 := nv 6 Tryz.f57
theorem ent57 : Ent T 57 12 (.seq (r57_0) (.seq (r57_1) (.ret))) := entI T (F := Tryz.f57) (by kernel_rfl) (by kernel_rfl) (by kernel_rfl)
@[go_sem ↓] theorem run57 : RR r57_0 [oo 1 (.box 82 (.tmp 0)), oo 2 (.alloc 85)] ∧ RD r57_1 57 [oo 3 (oF 82 1 0), oo 4 (oL 3 3), oo 5 (oF 82 1 1), oo 6 (oL 3 5), oo 7 (.buildSlice 80 0 #[]), oo 8 (oF 82 1 2), oo 9 (oL 80 8), oo 10 (oA 7 9 80), oo 11 (.build 85 #[(0, .tmp 4), (1, .tmp 6), (2, .tmp 10)]), ow 85 2 11] [(0, 2), (1, 2), (0, 3), (1, 3), (0, 4), (1, 4), (2, 4), (3, 4), (0, 5), (1, 5), (2, 5), (3, 5), (4, 5), (0, 6), (1, 6), (2, 6), (3, 6), (4, 6), (0, 7), (1, 7), (2, 7), (3, 7)] ∧ FinF T 57 [.cell 2 85] false := by refine ⟨runR T ?_, runD T (id := 1) ?_ ?_, finI T (F := Tryz.f57) ?_ ?_ ?_⟩ <;> kernel_rfl
@[go_sem] theorem fr58 : Fct T 58 false none false ∧ Res2 T 58 87 29 [] := by refine ⟨⟨?_, ?_, ?_⟩, res2 T (F := Tryz.f58) ?_ ?_⟩ <;> kernel_rfl
@[go_sem] theorem fr152 : Fct T 152 false none false ∧ Res1 T 152 100 := by refine ⟨⟨?_, ?_, ?_⟩, res1 T (F := Tryz.f152) ?_ ?_⟩ <;> kernel_rfl
@[go_sem] theorem fr153 : Fct T 153 false none false ∧ Res1 T 153 87 := by refine ⟨⟨?_, ?_, ?_⟩, res1 T (F := Tryz.f153) ?_ ?_⟩ <;> kernel_rfl
@[go_sem] theorem fr154 : Fct T 154 false none false ∧ Res1 T 154 153 := by refine ⟨⟨?_, ?_, ?_⟩, res1 T (F := Tryz.f154) ?_ ?_⟩ <;> kernel_rfl
def r58_0 := nv 2 Tryz.f58
def r58_1 := nv 12 Tryz.f58
def r58_2 := nv 26 Tryz.f58
def r58_3 := nv 108 Tryz.f58
def r58_4 := nv 14 Tryz.f58
def r58_5 := nv 30 Tryz.f58
def r58_6 := nv 124 Tryz.f58
def b58_0 := nv 500 Tryz.f58
def r58_7 := nv 1000 Tryz.f58
def r58_8 := nv 16024 Tryz.f58
def r58_9 := nv 16025 Tryz.f58
def r58_10 := nv 4007 Tryz.f58
def r58_11 := nv 126 Tryz.f58
def r58_12 := nv 508 Tryz.f58
def b58_1 := nv 2036 Tryz.f58
def r58_13 := nv 4072 Tryz.f58
def r58_14 := nv 65176 Tryz.f58
def r58_15 := nv 260708 Tryz.f58
def r58_16 := nv 260710 Tryz.f58
def r58_17 := nv 521422 Tryz.f58
def r58_18 := nv 2085692 Tryz.f58
def b58_2 := nv 8342772 Tryz.f58
def r58_19 := nv 33371088 Tryz.f58
def r58_21 := nv 133484360 Tryz.f58
def b58_3 := nv 533937444 Tryz.f58
def r58_22 := nv 1067874888 Tryz.f58
def r58_23 := nv 17085998232 Tryz.f58
def r58_24 := nv 34171996466 Tryz.f58
def r58_25 := nv 68343992934 Tryz.f58
def r58_26 := nv 273375971740 Tryz.f58
def r58_27 := nv 273375971741 Tryz.f58
def r58_28 := nv 4271499559 Tryz.f58
def r58_20 := nv 33371091 Tryz.f58
def r58_29 := nv 2085694 Tryz.f58
def r58_30 := nv 2085695 Tryz.f58
def r58_31 := nv 16295 Tryz.f58
def r58_32 := nv 510 Tryz.f58
theorem ent58 : Ent T 58 100 (.seq (r58_0) (.seq (.seq (r58_1) (.seq (r58_2) (.cond (.tmp 23) (.seq (r58_3) (.ret)) (.skip)))) (.seq (r58_4) (.seq (r58_5) (.seq (.seq (r58_6) (.block 0 (.loop b58_0))) (.seq (r58_11) (.seq (.seq (r58_12) (.block 2 (.loop b58_1))) (.seq (r58_32) (.ret))))))))) := entI T (F := Tryz.f58) (by kernel_rfl) (by kernel_rfl) (by kernel_rfl)
@[go_sem ↓] theorem run58 : RR r58_0 [oo 2 (.box 85 (.tmp 0)), oo 4 on, oo 5 (oi 0)] ∧ RR r58_1 [oo 19 (oL 85 2), oo 20 (oM 1), oo 21 (o2 150 19 20 85 3), oo 6 (oG 21)] ∧ RR r58_2 [oo 22 (oM 6), oo 23 (oC .neq 29 22 0)] ∧ RR r58_3 [oo 24 (oM 6), oo 4 on, oo 5 (oG 24)] ∧ RR r58_4 [oo 25 (oL 85 2), oo 26 (oM 1), oo 27 (o2 151 25 26 85 3), oo 7 (oG 27)] ∧ RR r58_5 [oo 28 (.makeMap 224 none), oo 8 (oG 28)] ∧ RR r58_6 [oo 29 (oM 7), oo 30 (oN 29 48), oo 31 (.move (.const (.int .i64 0)))] ∧ RR r58_7 [oo 32 (oB .lss 3 31 30)] ∧ RR r58_8 [oo 33 (oI 48 29 31), oo 34 (oL 100 33), oo 10 (.alloc 100), ow 100 10 34] ∧ RR r58_9 [oo 35 (oM 8), oo 36 (oL 100 10), ⟨none, .mapUpdate 224 (.tmp 35) (.tmp 36) (.const (.bool true)), none⟩] ∧ RR r58_10 [oo 37 (oC .add 3 31 1), oo 31 (oM 37)] ∧ RI b58_0 (.seq (r58_7) (.seq (.cond (.tmp 32) (.skip) (.exit 0)) (.seq (.block 1 (.seq (r58_8) (r58_9))) (r58_10)))) ∧ KeepS T 58 b58_0 [7, 8, 29, 30, 31] ∧ RR r58_11 [oo 11 on] ∧ RR r58_12 [oo 38 (oM 7), oo 39 (oN 38 48), oo 40 (.move (.const (.int .i64 0)))] ∧ RR r58_13 [oo 41 (oB .lss 3 40 39)] ∧ RR r58_14 [oo 42 (oI 48 38 40), oo 43 (oL 100 42), oo 13 (.alloc 100), ow 100 13 43] ∧ RR r58_15 [oo 44 (oM 8), oo 45 (oL 100 13), oo 46 (.lookup 224 (.tmp 44) (.tmp 45) false), oo 47 (.unOp .not 4 (.tmp 46))] ∧ RR r58_16 [oo 48 (oM 8), oo 49 (oL 100 13), ⟨none, .call ⟨.builtin .delete, #[.tmp 48, .tmp 49], #[224, 100]⟩, none⟩] ∧ RR r58_17 [oo 50 (oL 100 13), oo 51 (.build 153 #[(0, .tmp 50)]), oo 52 (oL 100 13), oo 53 (oS 48 52), oo 54 (.build 227 #[(0, .tmp 51), (1, .tmp 53)]), oo 14 (.alloc 227), ow 227 14 54] ∧ RR r58_18 [oo 15 (oi 0)] ∧ RR r58_19 [oo 55 (oM 15), oo 56 (oF 227 14 1), oo 57 (oL 48 56), oo 58 (oN 57 48), oo 59 (oB .lss 3 55 58)] ∧ RR r58_21 [oo 62 (.load 231 (.global 0)), oo 63 (.move (.const (.int .i64 0)))] ∧ RR r58_22 [oo 64 (oC .lss 3 63 4)] ∧ RR r58_23 [oo 65 (.index 231 (.tmp 62) (.tmp 63)), oo 17 (.alloc 230), ow 230 17 65] ∧ RD r58_24 58 [oo 66 (oF 227 14 1), oo 67 (oL 48 66), oo 68 (oM 15), oo 69 (oI 48 67 68), oo 70 (oL 100 69), oo 71 (oF 230 17 1), oo 72 (oL 228 71), oo 73 (.build 100 #[(0, .const (.int .i64 1))]), oo 74 (.call ⟨.value (.tmp 72), #[.tmp 73], #[100]⟩), oo 75 (o2 152 70 74 100 100), oo 18 (.alloc 100), ow 100 18 75] [(0, 2), (1, 2), (0, 5), (1, 5), (2, 5), (3, 5), (4, 5), (0, 6), (1, 6), (2, 6), (3, 6), (4, 6), (0, 7), (1, 7), (2, 7), (3, 7), (4, 7), (5, 7), (6, 7), (0, 8), (1, 8), (2, 8), (3, 8), (4, 8), (0, 10), (1, 10), (2, 10), (3, 10), (4, 10), (5, 10), (6, 10), (7, 10), (8, 10), (9, 10)] ∧ RR r58_25 [oo 76 (oM 8), oo 77 (oL 100 18), oo 78 (.lookup 224 (.tmp 76) (.tmp 77) false)] ∧ RR r58_26 [oo 79 (oM 8), oo 80 (oL 100 18), ⟨none, .call ⟨.builtin .delete, #[.tmp 79, .tmp 80], #[224, 100]⟩, none⟩] ∧ RR r58_27 [oo 81 (oF 227 14 1), oo 82 (oL 48 81), oo 83 (oL 100 18), oo 84 (oS 48 83), oo 85 (oA 82 84 48), oo 86 (oF 227 14 1), ow 48 86 85] ∧ RR r58_28 [oo 87 (oC .add 3 63 1), oo 63 (oM 87)] ∧ RI b58_3 (.seq (r58_22) (.seq (.cond (.tmp 64) (.skip) (.exit 6)) (.seq (.block 7 (.seq (r58_23) (.seq (r58_24) (.seq (r58_25) (.cond (.tmp 78) (.seq (r58_26) (r58_27)) (.skip)))))) (r58_28)))) ∧ KeepS T 58 b58_3 [8, 11, 14, 15, 38, 39, 40, 62, 63] ∧ RR r58_20 [oo 60 (oM 15), oo 61 (oC .add 3 60 1), oo 15 (oG 61)] ∧ RI b58_2 (.seq (.seq (r58_19) (.cond (.tmp 59) (.skip) (.exit 4))) (.seq (.block 5 (.seq (r58_21) (.block 6 (.loop b58_3)))) (r58_20))) ∧ KeepS T 58 b58_2 [8, 11, 14, 15, 38, 39, 40] ∧ RR r58_29 [oo 88 (oF 227 14 1), oo 89 (oL 48 88), oo 90 (oN 89 48), oo 91 (oF 227 14 0), oo 92 (oF 153 91 1), ow 3 92 90] ∧ RR r58_30 [oo 93 (oM 11), oo 94 (oL 227 14), oo 95 (oS 225 94), oo 96 (oA 93 95 225), oo 11 (oG 96)] ∧ RR r58_31 [oo 97 (oC .add 3 40 1), oo 40 (oM 97)] ∧ RI b58_1 (.seq (r58_13) (.seq (.cond (.tmp 41) (.skip) (.exit 2)) (.seq (.block 3 (.seq (r58_14) (.seq (.seq (r58_15) (.cond (.tmp 47) (.exit 3) (.skip))) (.seq (r58_16) (.seq (r58_17) (.seq (.seq (r58_18) (.block 4 (.loop b58_2))) (.seq (r58_29) (r58_30)))))))) (r58_31)))) ∧ KeepS T 58 b58_1 [8, 11, 38, 39, 40] ∧ RR r58_32 [oo 98 (oM 11), oo 99 (.call ⟨.value (.func 153), #[.tmp 98, .func 154], #[225, 234]⟩), oo 4 (oG 99), oo 5 (oi 0)] ∧ FinF T 58 [.tmp 4, .tmp 5] false := by refine ⟨runR T ?_, runR T ?_, runR T ?_, runR T ?_, runR T ?_, runR T ?_, runR T ?_, runR T ?_, runR T ?_, runR T ?_, runR T ?_, runIc T ?_, keepS T ?_, runR T ?_, runR T ?_, runR T ?_, runR T ?_, runR T ?_, runR T ?_, runR T ?_, runR T ?_, runR T ?_, runR T ?_, runR T ?_, runR T ?_, runD T (id := 24) ?_ ?_, runR T ?_, runR T ?_, runR T ?_, runR T ?_, runIc T ?_, keepS T ?_, runR T ?_, runIc T ?_, keepS T ?_, runR T ?_, runR T ?_, runR T ?_, runIc T ?_, keepS T ?_, runR T ?_, finI T (F := Tryz.f58) ?_ ?_ ?_⟩ <;> kernel_rfl
@[go_sem] theorem fr59 : Fct T 59 false none false ∧ Res1 T 59 3 := by refine ⟨⟨?_, ?_, ?_⟩, res1 T (F := Tryz.f59) ?_ ?_⟩ <;> kernel_rfl
@[go_sem] theorem fr155 : Fct T 155 false none false ∧ Res1 T 155 3 := by refine ⟨⟨?_, ?_, ?_⟩, res1 T (F := Tryz.f155) ?_ ?_⟩ <;> kernel_rfl
def r59_0 := nv 2 Tryz.f59
def r59_1 := nv 12 Tryz.f59
def r59_2 := nv 26 Tryz.f59
def r59_3 := nv 108 Tryz.f59
def r59_4 := nv 28 Tryz.f59
def r59_5 := nv 116 Tryz.f59
def r59_6 := nv 60 Tryz.f59
def b59_0 := nv 244 Tryz.f59
def r59_7 := nv 976 Tryz.f59
def r59_9 := nv 3912 Tryz.f59
def r59_10 := nv 7826 Tryz.f59
def r59_11 := nv 31308 Tryz.f59
def r59_8 := nv 979 Tryz.f59
def r59_12 := nv 62 Tryz.f59
theorem ent59 : Ent T 59 42 (.seq (r59_0) (.seq (.seq (r59_1) (.seq (r59_2) (.cond (.tmp 15) (.seq (r59_3) (.ret)) (.skip)))) (.seq (.seq (r59_4) (.cond (.tmp 25) (.seq (r59_5) (.ret)) (.skip))) (.seq (.seq (r59_6) (.block 0 (.loop b59_0))) (.seq (r59_12) (.ret)))))) := entI T (F := Tryz.f59) (by kernel_rfl) (by kernel_rfl) (by kernel_rfl)
@[go_sem ↓] theorem run59 : RR r59_0 [oo 1 (.box 82 (.tmp 0)), oo 2 (oi 0)] ∧ RD r59_1 59 [oo 6 (oF 82 1 0), oo 7 (oL 3 6), oo 8 (.call ⟨.value (.func 90), #[.tmp 7, .const (.int .i64 1), .const (.int .i64 16)], #[3, 3, 3]⟩), oo 9 (oF 82 1 1), oo 10 (oL 3 9), oo 11 (.call ⟨.value (.func 90), #[.tmp 10, .const (.int .i64 1), .const (.int .i64 16)], #[3, 3, 3]⟩), oo 12 (.buildSlice 28 2 #[(0, .tmp 8), (1, .tmp 11)]), oo 13 (o1 108 12 28), oo 3 (oG 13)] [(0, 3), (1, 3), (2, 3), (0, 4), (1, 4), (2, 4)] ∧ RR r59_2 [oo 14 (oM 3), oo 15 (oC .neq 3 14 0)] ∧ RR r59_3 [oo 16 (oM 3), oo 2 (oG 16)] ∧ RR r59_4 [oo 17 (oF 82 1 2), oo 18 (oL 80 17), oo 19 (oN 18 80), oo 20 (oF 82 1 0), oo 21 (oL 3 20), oo 22 (oF 82 1 1), oo 23 (oL 3 22), oo 24 (oB .mul 3 21 23), oo 25 (oB .neq 3 19 24)] ∧ RR r59_5 [oo 2 (oi 2)] ∧ RR r59_6 [oo 4 (oi 0)] ∧ RR r59_7 [oo 26 (oM 4), oo 27 (oF 82 1 2), oo 28 (oL 80 27), oo 29 (oN 28 80), oo 30 (oB .lss 3 26 29)] ∧ RR r59_9 [oo 33 (oF 82 1 2), oo 34 (oL 80 33), oo 35 (oM 4), oo 36 (oI 80 34 35), oo 37 (oL 150 36), oo 38 (o1 155 37 150), oo 5 (oG 38)] ∧ RR r59_10 [oo 39 (oM 5), oo 40 (oC .neq 3 39 0)] ∧ RR r59_11 [oo 41 (oM 5), oo 2 (oG 41)] ∧ RR r59_8 [oo 31 (oM 4), oo 32 (oC .add 3 31 1), oo 4 (oG 32)] ∧ RI b59_0 (.seq (.seq (r59_7) (.cond (.tmp 30) (.skip) (.exit 0))) (.seq (.block 1 (.seq (r59_9) (.seq (r59_10) (.cond (.tmp 40) (.seq (r59_11) (.ret)) (.skip))))) (r59_8))) ∧ KeepS T 59 b59_0 [1, 4] ∧ RR r59_12 [oo 2 (oi 0)] ∧ FinF T 59 [.tmp 2] false := by refine ⟨runR T ?_, runD T (id := 1) ?_ ?_, runR T ?_, runR T ?_, runR T ?_, runR T ?_, runR T ?_, runR T ?_, runR T ?_, runR T ?_, runR T ?_, runR T ?_, runIc T ?_, keepS T ?_, runR T ?_, finI T (F := Tryz.f59) ?_ ?_ ?_⟩ <;> kernel_rfl
@[go_sem] theorem fr60 : Fct T 60 false none false ∧ Res1 T 60 3 := by refine ⟨⟨?_, ?_, ?_⟩, res1 T (F := Tryz.f60) ?_ ?_⟩ <;> kernel_rfl
def r60_0 := nv 2 Tryz.f60
def r60_1 := nv 6 Tryz.f60
theorem ent60 : Ent T 60 5 (.seq (r60_0) (.seq (r60_1) (.ret))) := entI T (F := Tryz.f60) (by kernel_rfl) (by kernel_rfl) (by kernel_rfl)
@[go_sem ↓] theorem run60 : RR r60_0 [oo 2 (oi 0)] ∧ RR r60_1 [oo 3 (oM 0), oo 4 (.call ⟨.value (.func 90), #[.tmp 3, .const (.int .i64 1), .const (.int .i64 16384)], #[3, 3, 3]⟩), oo 2 (oG 4)] ∧ FinF T 60 [.tmp 2] false := by refine ⟨runR T ?_, runR T ?_, finI T (F := Tryz.f60) ?_ ?_ ?_⟩ <;> kernel_rfl
@[go_sem] theorem fr61 : Fct T 61 false none false ∧ Res1 T 61 48 := by refine ⟨⟨?_, ?_, ?_⟩, res1 T (F := Tryz.f61) ?_ ?_⟩ <;> kernel_rfl
@[go_sem] theorem fr156 : Fct T 156 false none false ∧ Res1 T 156 3 := by refine ⟨⟨?_, ?_, ?_⟩, res1 T (F := Tryz.f156) ?_ ?_⟩ <;> kernel_rfl
def r61_0 := nv 2 Tryz.f61
def r61_1 := nv 6 Tryz.f61
def r61_2 := nv 28 Tryz.f61
def b61_0 := nv 116 Tryz.f61
def r61_3 := nv 464 Tryz.f61
def r61_5 := nv 932 Tryz.f61
def r61_4 := nv 467 Tryz.f61
def r61_6 := nv 30 Tryz.f61
def r61_7 := nv 62 Tryz.f61
def r61_8 := nv 252 Tryz.f61
def b61_1 := nv 1012 Tryz.f61
def r61_9 := nv 4048 Tryz.f61
def r61_11 := nv 16200 Tryz.f61
def r61_12 := nv 32402 Tryz.f61
def r61_10 := nv 4051 Tryz.f61
def r61_13 := nv 254 Tryz.f61
theorem ent61 : Ent T 61 55 (.seq (r61_0) (.seq (r61_1) (.seq (.seq (r61_2) (.block 0 (.loop b61_0))) (.seq (r61_6) (.seq (r61_7) (.seq (.seq (r61_8) (.block 2 (.loop b61_1))) (.seq (r61_13) (.ret)))))))) := entI T (F := Tryz.f61) (by kernel_rfl) (by kernel_rfl) (by kernel_rfl)
@[go_sem ↓] theorem run61 : RR r61_0 [oo 2 (.box 82 (.tmp 0)), oo 4 on] ∧ RR r61_1 [oo 5 on] ∧ RR r61_2 [oo 6 (oi 0)] ∧ RR r61_3 [oo 10 (oM 6), oo 11 (oF 82 2 2), oo 12 (oL 80 11), oo 13 (oN 12 80), oo 14 (oB .lss 3 10 13)] ∧ RR r61_5 [oo 17 (oM 5), oo 18 (oF 82 2 2), oo 19 (oL 80 18), oo 20 (oM 6), oo 21 (oI 80 19 20), oo 22 (oL 150 21), oo 23 (o1 156 22 150), oo 24 (oS 28 23), oo 25 (oA 17 24 28), oo 5 (oG 25)] ∧ RR r61_4 [oo 15 (oM 6), oo 16 (oC .add 3 15 1), oo 6 (oG 16)] ∧ RI b61_0 (.seq (.seq (r61_3) (.cond (.tmp 14) (.skip) (.exit 0))) (.seq (.block 1 (r61_5)) (r61_4))) ∧ KeepS T 61 b61_0 [1, 2, 5, 6] ∧ RR r61_6 [oo 26 (oM 5), oo 27 (o1 111 26 28), oo 7 (oG 27)] ∧ RR r61_7 [oo 8 on] ∧ RR r61_8 [oo 9 (oi 0)] ∧ RR r61_9 [oo 28 (oM 9), oo 29 (oM 5), oo 30 (oN 29 28), oo 31 (oB .lss 3 28 30)] ∧ RR r61_11 [oo 34 (oM 5), oo 35 (oM 9), oo 36 (oI 28 34 35), oo 37 (oL 3 36), oo 38 (oM 7), oo 39 (oM 1), oo 40 (oB .add 3 38 39), oo 41 (oB .geq 3 37 40)] ∧ RD r61_12 61 [oo 42 (oM 8), oo 43 (oM 9), oo 44 (oF 82 2 0), oo 45 (oL 3 44), oo 46 (oB .rem 3 43 45), oo 47 (oM 9), oo 48 (oF 82 2 0), oo 49 (oL 3 48), oo 50 (oB .quo 3 47 49), oo 51 (.build 100 #[(0, .tmp 46), (1, .tmp 50)]), oo 52 (oS 48 51), oo 53 (oA 42 52 48), oo 8 (oG 53)] [(0, 1), (0, 2), (1, 2), (0, 3), (1, 3), (0, 4), (0, 5), (1, 5), (2, 5), (3, 5), (4, 5), (0, 6), (1, 6), (2, 6), (3, 6), (4, 6), (5, 6), (0, 7), (1, 7), (2, 7), (3, 7), (4, 7), (5, 7), (0, 8), (1, 8), (2, 8), (3, 8), (4, 8), (0, 9), (0, 10)] ∧ RR r61_10 [oo 32 (oM 9), oo 33 (oC .add 3 32 1), oo 9 (oG 33)] ∧ RI b61_1 (.seq (.seq (r61_9) (.cond (.tmp 31) (.skip) (.exit 2))) (.seq (.block 3 (.seq (r61_11) (.cond (.tmp 41) (r61_12) (.skip)))) (r61_10))) ∧ KeepS T 61 b61_1 [1, 2, 5, 7, 8, 9] ∧ RR r61_13 [oo 54 (oM 8), oo 4 (oG 54)] ∧ FinF T 61 [.tmp 4] false := by refine ⟨runR T ?_, runR T ?_, runR T ?_, runR T ?_, runR T ?_, runR T ?_, runIc T ?_, keepS T ?_, runR T ?_, runR T ?_, runR T ?_, runR T ?_, runR T ?_, runD T (id := 12) ?_ ?_, runR T ?_, runIc T ?_, keepS T ?_, runR T ?_, finI T (F := Tryz.f61) ?_ ?_ ?_⟩ <;> kernel_rfl
@[go_sem] theorem fr62 : Fct T 62 false none false ∧ Res1 T 62 92 := by refine ⟨⟨?_, ?_, ?_⟩, res1 T (F := Tryz.f62) ?_ ?_⟩ <;> kernel_rfl
@[go_sem] theorem fr157 : Fct T 157 false none false ∧ Res1 T 157 4 := by refine ⟨⟨?_, ?_, ?_⟩, res1 T (F := Tryz.f157) ?_ ?_⟩ <;> kernel_rfl
def r62_0 := nv 2 Tryz.f62
def r62_1 := nv 6 Tryz.f62
def r62_2 := nv 14 Tryz.f62
def r62_3 := nv 60 Tryz.f62
def b62_0 := nv 244 Tryz.f62
def r62_4 := nv 976 Tryz.f62
def r62_6 := nv 1956 Tryz.f62
def r62_5 := nv 979 Tryz.f62
def r62_7 := nv 124 Tryz.f62
def b62_1 := nv 500 Tryz.f62
def r62_8 := nv 2000 Tryz.f62
def r62_10 := nv 8008 Tryz.f62
def b62_2 := nv 32036 Tryz.f62
def r62_11 := nv 128144 Tryz.f62
def r62_13 := nv 512584 Tryz.f62
def b62_3 := nv 2050340 Tryz.f62
def r62_14 := nv 8201360 Tryz.f62
def r62_16 := nv 32805448 Tryz.f62
def r62_17 := nv 65610898 Tryz.f62
def r62_15 := nv 8201363 Tryz.f62
def r62_12 := nv 128147 Tryz.f62
def r62_9 := nv 2003 Tryz.f62
def r62_18 := nv 126 Tryz.f62
def r62_19 := nv 508 Tryz.f62
def b62_4 := nv 2036 Tryz.f62
def r62_20 := nv 8144 Tryz.f62
def r62_22 := nv 65168 Tryz.f62
def r62_23 := nv 65170 Tryz.f62
def r62_24 := nv 260684 Tryz.f62
def b62_5 := nv 1042740 Tryz.f62
def r62_25 := nv 4170960 Tryz.f62
def r62_27 := nv 16683848 Tryz.f62
def r62_28 := nv 33367698 Tryz.f62
def r62_26 := nv 4170963 Tryz.f62
def r62_29 := nv 130343 Tryz.f62
def r62_21 := nv 8147 Tryz.f62
def r62_30 := nv 510 Tryz.f62
theorem ent62 : Ent T 62 106 (.seq (r62_0) (.seq (r62_1) (.seq (r62_2) (.seq (.seq (r62_3) (.block 0 (.loop b62_0))) (.seq (.seq (r62_7) (.block 2 (.loop b62_1))) (.seq (r62_18) (.seq (.seq (r62_19) (.block 8 (.loop b62_4))) (.seq (r62_30) (.ret))))))))) := entI T (F := Tryz.f62) (by kernel_rfl) (by kernel_rfl) (by kernel_rfl)
@[go_sem ↓] theorem run62 : RR r62_0 [oo 2 (.box 82 (.tmp 0)), oo 4 on] ∧ RR r62_1 [oo 15 (oL 82 2), oo 16 (oM 1), oo 17 (o2 61 15 16 82 3), oo 5 (oG 17)] ∧ RR r62_2 [oo 18 (oM 5), oo 19 (oN 18 48), oo 20 (.makeSlice 28 (.tmp 19) (.tmp 19)), oo 6 (oG 20)] ∧ RR r62_3 [oo 7 (oi 0)] ∧ RR r62_4 [oo 21 (oM 7), oo 22 (oM 5), oo 23 (oN 22 48), oo 24 (oB .lss 3 21 23)] ∧ RR r62_6 [oo 27 (oM 6), oo 28 (oM 7), oo 29 (oM 7), oo 30 (oI 28 27 28), ow 3 30 29] ∧ RR r62_5 [oo 25 (oM 7), oo 26 (oC .add 3 25 1), oo 7 (oG 26)] ∧ RI b62_0 (.seq (.seq (r62_4) (.cond (.tmp 24) (.skip) (.exit 0))) (.seq (.block 1 (r62_6)) (r62_5))) ∧ KeepS T 62 b62_0 [5, 6, 7] ∧ RR r62_7 [oo 8 (oi 0)] ∧ RR r62_8 [oo 31 (oM 8), oo 32 (oM 5), oo 33 (oN 32 48), oo 34 (oB .lss 3 31 33)] ∧ RR r62_10 [oo 9 (oi 0)] ∧ RR r62_11 [oo 37 (oM 9), oo 38 (oM 5), oo 39 (oN 38 48), oo 40 (oB .lss 3 37 39)] ∧ RR r62_13 [oo 10 (oi 0)] ∧ RR r62_14 [oo 43 (oM 10), oo 44 (oM 5), oo 45 (oN 44 48), oo 46 (oB .lss 3 43 45)] ∧ RD r62_16 62 [oo 49 (oM 5), oo 50 (oM 9), oo 51 (oI 48 49 50), oo 52 (oL 100 51), oo 53 (oM 5), oo 54 (oM 10), oo 55 (oI 48 53 54), oo 56 (oL 100 55), oo 57 (o2 157 52 56 100 100)] [(0, 1), (0, 4), (1, 4), (2, 4), (3, 4), (0, 5), (1, 5), (2, 5), (3, 5), (4, 5), (0, 6), (1, 6), (2, 6), (3, 6), (0, 7), (1, 7), (2, 7), (3, 7)] ∧ RD r62_17 62 [oo 58 (oM 6), oo 59 (oM 9), oo 60 (oM 6), oo 61 (oM 9), oo 62 (oI 28 60 61), oo 63 (oL 3 62), oo 64 (oM 6), oo 65 (oM 10), oo 66 (oI 28 64 65), oo 67 (oL 3 66), oo 68 (.call ⟨.builtin .min, #[.tmp 63, .tmp 67], #[3, 3]⟩), oo 69 (oI 28 58 59), ow 3 69 68] [(0, 1), (0, 2), (1, 2), (0, 3), (1, 3), (2, 3), (0, 4), (1, 4), (0, 5), (1, 5), (0, 6), (1, 6), (2, 6), (3, 6), (4, 6), (5, 6), (0, 7), (1, 7), (2, 7), (3, 7), (4, 7), (5, 7), (6, 7), (0, 8), (1, 8), (2, 8), (3, 8), (4, 8), (5, 8), (0, 9), (1, 9), (2, 9), (3, 9), (4, 9), (5, 9), (0, 10), (1, 10)] ∧ RR r62_15 [oo 47 (oM 10), oo 48 (oC .add 3 47 1), oo 10 (oG 48)] ∧ RI b62_3 (.seq (.seq (r62_14) (.cond (.tmp 46) (.skip) (.exit 6))) (.seq (.block 7 (.seq (r62_16) (.cond (.tmp 57) (r62_17) (.skip)))) (r62_15))) ∧ KeepS T 62 b62_3 [5, 6, 8, 9, 10] ∧ RR r62_12 [oo 41 (oM 9), oo 42 (oC .add 3 41 1), oo 9 (oG 42)] ∧ RI b62_2 (.seq (.seq (r62_11) (.cond (.tmp 40) (.skip) (.exit 4))) (.seq (.block 5 (.seq (r62_13) (.block 6 (.loop b62_3)))) (r62_12))) ∧ KeepS T 62 b62_2 [5, 6, 8, 9] ∧ RR r62_9 [oo 35 (oM 8), oo 36 (oC .add 3 35 1), oo 8 (oG 36)] ∧ RI b62_1 (.seq (.seq (r62_8) (.cond (.tmp 34) (.skip) (.exit 2))) (.seq (.block 3 (.seq (r62_10) (.block 4 (.loop b62_2)))) (r62_9))) ∧ KeepS T 62 b62_1 [5, 6, 8] ∧ RR r62_18 [oo 11 on] ∧ RR r62_19 [oo 12 (oi 0)] ∧ RR r62_20 [oo 70 (oM 12), oo 71 (oM 5), oo 72 (oN 71 48), oo 73 (oB .lss 3 70 72)] ∧ RR r62_22 [oo 76 (oM 6), oo 77 (oM 12), oo 78 (oI 28 76 77), oo 79 (oL 3 78), oo 80 (oM 12), oo 81 (oB .neq 3 79 80)] ∧ RR r62_23 [oo 13 (oi 0)] ∧ RR r62_24 [oo 14 (oi 0)] ∧ RR r62_25 [oo 82 (oM 14), oo 83 (oM 5), oo 84 (oN 83 48), oo 85 (oB .lss 3 82 84)] ∧ RR r62_27 [oo 88 (oM 6), oo 89 (oM 14), oo 90 (oI 28 88 89), oo 91 (oL 3 90), oo 92 (oM 12), oo 93 (oB .eql 3 91 92)] ∧ RR r62_28 [oo 94 (oM 13), oo 95 (oC .add 3 94 1), oo 13 (oG 95)] ∧ RR r62_26 [oo 86 (oM 14), oo 87 (oC .add 3 86 1), oo 14 (oG 87)] ∧ RI b62_5 (.seq (.seq (r62_25) (.cond (.tmp 85) (.skip) (.exit 10))) (.seq (.block 11 (.seq (r62_27) (.cond (.tmp 93) (r62_28) (.skip)))) (r62_26))) ∧ KeepS T 62 b62_5 [5, 6, 11, 12, 13, 14] ∧ RR r62_29 [oo 96 (oM 11), oo 97 (oM 5), oo 98 (oM 12), oo 99 (oI 48 97 98), oo 100 (oL 100 99), oo 101 (oM 13), oo 102 (.build 237 #[(0, .tmp 100), (1, .tmp 101)]), oo 103 (oS 92 102), oo 104 (oA 96 103 92), oo 11 (oG 104)] ∧ RR r62_21 [oo 74 (oM 12), oo 75 (oC .add 3 74 1), oo 12 (oG 75)] ∧ RI b62_4 (.seq (.seq (r62_20) (.cond (.tmp 73) (.skip) (.exit 8))) (.seq (.block 9 (.seq (.seq (r62_22) (.cond (.tmp 81) (.exit 9) (.skip))) (.seq (r62_23) (.seq (.seq (r62_24) (.block 10 (.loop b62_5))) (r62_29))))) (r62_21))) ∧ KeepS T 62 b62_4 [5, 6, 11, 12] ∧ RR r62_30 [oo 105 (oM 11), oo 4 (oG 105)] ∧ FinF T 62 [.tmp 4] false := by refine ⟨runR T ?_, runR T ?_, runR T ?_, runR T ?_, runR T ?_, runR T ?_, runR T ?_, runIc T ?_, keepS T ?_, runR T ?_, runR T ?_, runR T ?_, runR T ?_, runR T ?_, runR T ?_, runD T (id := 16) ?_ ?_, runD T (id := 17) ?_ ?_, runR T ?_, runIc T ?_, keepS T ?_, runR T ?_, runIc T ?_, keepS T ?_, runR T ?_, runIc T ?_, keepS T ?_, runR T ?_, runR T ?_, runR T ?_, runR T ?_, runR T ?_, runR T ?_, runR T ?_, runR T ?_, runR T ?_, runR T ?_, runIc T ?_, keepS T ?_, runR T ?_, runR T ?_, runIc T ?_, keepS T ?_, runR T ?_, finI T (F := Tryz.f62) ?_ ?_ ?_⟩ <;> kernel_rfl
@[go_sem] theorem fr63 : Fct T 63 false none false ∧ Res1 T 63 29 := by refine ⟨⟨?_, ?_, ?_⟩, res1 T (F := Tryz.f63) ?_ ?_⟩ <;> kernel_rfl
@[go_sem] theorem fr158 : Fct T 158 false none false ∧ Res1 T 158 187 := by refine ⟨⟨?_, ?_, ?_⟩, res1 T (F := Tryz.f158) ?_ ?_⟩ <;> kernel_rfl
@[go_sem] theorem fr159 : Fct T 159 false none false ∧ Res1 T 159 29 := by refine ⟨⟨?_, ?_, ?_⟩, res1 T (F := Tryz.f159) ?_ ?_⟩ <;> kernel_rfl
def r63_0 := nv 2 Tryz.f63
def r63_1 := nv 12 Tryz.f63
def r63_2 := nv 26 Tryz.f63
def r63_3 := nv 108 Tryz.f63
def r63_4 := nv 14 Tryz.f63
theorem ent63 : Ent T 63 31 (.seq (r63_0) (.seq (.seq (r63_1) (.seq (r63_2) (.cond (.tmp 13) (.seq (r63_3) (.ret)) (.skip)))) (.seq (r63_4) (.ret)))) := entI T (F := Tryz.f63) (by kernel_rfl) (by kernel_rfl) (by kernel_rfl)
@[go_sem ↓] theorem run63 : RR r63_0 [oo 1 (.box 85 (.tmp 0)), oo 2 (oi 0)] ∧ RD r63_1 63 [oo 4 (oF 85 1 0), oo 5 (oL 3 4), oo 6 (.call ⟨.value (.func 137), #[.tmp 5, .const (.int .i64 1), .const (.int .i64 16)], #[3, 3, 3]⟩), oo 7 (oF 85 1 1), oo 8 (oL 3 7), oo 9 (.call ⟨.value (.func 137), #[.tmp 8, .const (.int .i64 1), .const (.int .i64 16)], #[3, 3, 3]⟩), oo 10 (.buildSlice 187 2 #[(0, .tmp 6), (1, .tmp 9)]), oo 11 (o1 114 10 187), oo 3 (oG 11)] [(0, 3), (1, 3), (2, 3), (0, 4), (1, 4), (2, 4)] ∧ RR r63_2 [oo 12 (oM 3), oo 13 (oC .neq 29 12 0)] ∧ RR r63_3 [oo 14 (oM 3), oo 2 (oG 14)] ∧ RD r63_4 63 [oo 15 (oF 85 1 2), oo 16 (oL 80 15), oo 17 (oN 16 80), oo 18 (oF 85 1 0), oo 19 (oL 3 18), oo 20 (oF 85 1 1), oo 21 (oL 3 20), oo 22 (oB .mul 3 19 21), oo 23 (oB .neq 3 17 22), oo 24 (.call ⟨.value (.func 115), #[.tmp 23, .const (.int .i64 2)], #[4, 29]⟩), oo 25 (oF 85 1 2), oo 26 (oL 80 25), oo 27 (.call ⟨.value (.func 158), #[.tmp 26, .func 159], #[80, 239]⟩), oo 28 (o1 114 27 187), oo 29 (.buildSlice 187 2 #[(0, .tmp 24), (1, .tmp 28)]), oo 30 (o1 114 29 187), oo 2 (oG 30)] [(0, 3), (1, 3), (2, 3), (0, 4), (1, 4), (2, 4), (0, 5), (1, 5), (2, 5), (3, 5), (4, 5), (0, 6), (1, 6), (2, 6), (3, 6), (4, 6), (0, 7), (1, 7), (2, 7), (0, 10), (1, 10), (2, 10), (3, 10), (4, 10), (5, 10), (6, 10), (7, 10), (8, 10), (9, 10), (0, 11), (1, 11), (2, 11), (3, 11), (4, 11), (5, 11), (6, 11), (7, 11), (8, 11), (9, 11)] ∧ FinF T 63 [.tmp 2] false := by refine ⟨runR T ?_, runD T (id := 1) ?_ ?_, runR T ?_, runR T ?_, runD T (id := 4) ?_ ?_, finI T (F := Tryz.f63) ?_ ?_ ?_⟩ <;> kernel_rfl
@[go_sem] theorem fr64 : Fct T 64 false none false ∧ Res1 T 64 4 := by refine ⟨⟨?_, ?_, ?_⟩, res1 T (F := Tryz.f64) ?_ ?_⟩ <;> kernel_rfl
def r64_0 := nv 2 Tryz.f64
def r64_1 := nv 12 Tryz.f64
def r64_2 := nv 52 Tryz.f64
def r64_3 := nv 28 Tryz.f64
def b64_0 := nv 116 Tryz.f64
def r64_4 := nv 464 Tryz.f64
def r64_6 := nv 1864 Tryz.f64
def r64_7 := nv 7460 Tryz.f64
def r64_5 := nv 467 Tryz.f64
def r64_8 := nv 30 Tryz.f64
theorem ent64 : Ent T 64 26 (.seq (r64_0) (.seq (.seq (r64_1) (.cond (.tmp 10) (.seq (r64_2) (.ret)) (.skip))) (.seq (.seq (r64_3) (.block 0 (.loop b64_0))) (.seq (r64_8) (.ret))))) := entI T (F := Tryz.f64) (by kernel_rfl) (by kernel_rfl) (by kernel_rfl)
@[go_sem ↓] theorem run64 : RR r64_0 [oo 4 (.assign (.const (.bool false)))] ∧ RR r64_1 [oo 6 (oM 0), oo 7 (oN 6 92), oo 8 (oM 1), oo 9 (oN 8 92), oo 10 (oB .neq 3 7 9)] ∧ RR r64_2 [oo 4 (.assign (.const (.bool false)))] ∧ RR r64_3 [oo 5 (oi 0)] ∧ RR r64_4 [oo 11 (oM 5), oo 12 (oM 0), oo 13 (oN 12 92), oo 14 (oB .lss 3 11 13)] ∧ RD r64_6 64 [oo 17 (oM 0), oo 18 (oM 5), oo 19 (oI 92 17 18), oo 20 (oL 237 19), oo 21 (oM 1), oo 22 (oM 5), oo 23 (oI 92 21 22), oo 24 (oL 237 23), oo 25 (oB .neq 237 20 24)] [(0, 1), (0, 4), (1, 4), (2, 4), (3, 4), (0, 5), (1, 5), (2, 5), (3, 5), (4, 5), (0, 6), (1, 6), (2, 6), (3, 6), (0, 7), (1, 7), (2, 7), (3, 7)] ∧ RR r64_7 [oo 4 (.assign (.const (.bool false)))] ∧ RR r64_5 [oo 15 (oM 5), oo 16 (oC .add 3 15 1), oo 5 (oG 16)] ∧ RI b64_0 (.seq (.seq (r64_4) (.cond (.tmp 14) (.skip) (.exit 0))) (.seq (.block 1 (.seq (r64_6) (.cond (.tmp 25) (.seq (r64_7) (.ret)) (.skip)))) (r64_5))) ∧ KeepS T 64 b64_0 [0, 1, 5] ∧ RR r64_8 [oo 4 (.assign (.const (.bool true)))] ∧ FinF T 64 [.tmp 4] false := by refine ⟨runR T ?_, runR T ?_, runR T ?_, runR T ?_, runR T ?_, runD T (id := 6) ?_ ?_, runR T ?_, runR T ?_, runIc T ?_, keepS T ?_, runR T ?_, finI T (F := Tryz.f64) ?_ ?_ ?_⟩ <;> kernel_rfl
@[go_sem] theorem fr65 : Fct T 65 false none false ∧ Res1 T 65 92 := by refine ⟨⟨?_, ?_, ?_⟩, res1 T (F := Tryz.f65) ?_ ?_⟩ <;> kernel_rfl
def r65_0 := nv 2 Tryz.f65
def r65_1 := nv 6 Tryz.f65
def r65_2 := nv 28 Tryz.f65
def b65_0 := nv 116 Tryz.f65
def r65_3 := nv 232 Tryz.f65
def r65_4 := nv 3736 Tryz.f65
def r65_5 := nv 3737 Tryz.f65
def r65_6 := nv 935 Tryz.f65
def r65_7 := nv 30 Tryz.f65
theorem ent65 : Ent T 65 18 (.seq (r65_0) (.seq (r65_1) (.seq (.seq (r65_2) (.block 0 (.loop b65_0))) (.seq (r65_7) (.ret))))) := entI T (F := Tryz.f65) (by kernel_rfl) (by kernel_rfl) (by kernel_rfl)
@[go_sem ↓] theorem run65 : RR r65_0 [oo 2 on] ∧ RR r65_1 [oo 3 on] ∧ RR r65_2 [oo 6 (oM 0), oo 7 (oN 6 87), oo 8 (.move (.const (.int .i64 0)))] ∧ RR r65_3 [oo 9 (oB .lss 3 8 7)] ∧ RR r65_4 [oo 10 (oI 87 6 8), oo 11 (oL 153 10), oo 5 (.alloc 153), ow 153 5 11] ∧ RR r65_5 [oo 12 (oM 3), oo 13 (oL 153 5), oo 14 (oS 92 13), oo 15 (oA 12 14 92), oo 3 (oG 15)] ∧ RR r65_6 [oo 16 (oC .add 3 8 1), oo 8 (oM 16)] ∧ RI b65_0 (.seq (r65_3) (.seq (.cond (.tmp 9) (.skip) (.exit 0)) (.seq (.block 1 (.seq (r65_4) (r65_5))) (r65_6)))) ∧ KeepS T 65 b65_0 [3, 6, 7, 8] ∧ RR r65_7 [oo 17 (oM 3), oo 2 (oG 17)] ∧ FinF T 65 [.tmp 2] false := by refine ⟨runR T ?_, runR T ?_, runR T ?_, runR T ?_, runR T ?_, runR T ?_, runR T ?_, runIc T ?_, keepS T ?_, runR T ?_, finI T (F := Tryz.f65) ?_ ?_ ?_⟩ <;> kernel_rfl
def r103_0 := nv 2 Tryz.f103
def r103_1 := nv 12 Tryz.f103
def r103_2 := nv 52 Tryz.f103
def r103_3 := nv 28 Tryz.f103
def b103_0 := nv 116 Tryz.f103
def r103_4 := nv 464 Tryz.f103
def r103_6 := nv 1864 Tryz.f103
def r103_7 := nv 7460 Tryz.f103
def r103_5 := nv 467 Tryz.f103
def r103_8 := nv 30 Tryz.f103
theorem ent103 : Ent T 103 26 (.seq (r103_0) (.seq (.seq (r103_1) (.cond (.tmp 10) (.seq (r103_2) (.ret)) (.skip))) (.seq (.seq (r103_3) (.block 0 (.loop b103_0))) (.seq (r103_8) (.ret))))) := entI T (F := Tryz.f103) (by kernel_rfl) (by kernel_rfl) (by kernel_rfl)
@[go_sem ↓] theorem run103 : RR r103_0 [oo 4 (.assign (.const (.bool false)))] ∧ RR r103_1 [oo 6 (oM 0), oo 7 (oN 6 48), oo 8 (oM 1), oo 9 (oN 8 48), oo 10 (oB .neq 3 7 9)] ∧ RR r103_2 [oo 4 (.assign (.const (.bool false)))] ∧ RR r103_3 [oo 5 (oi 0)] ∧ RR r103_4 [oo 11 (oM 5), oo 12 (oM 0), oo 13 (oN 12 48), oo 14 (oB .lss 3 11 13)] ∧ RD r103_6 103 [oo 17 (oM 0), oo 18 (oM 5), oo 19 (oI 48 17 18), oo 20 (oL 100 19), oo 21 (oM 1), oo 22 (oM 5), oo 23 (oI 48 21 22), oo 24 (oL 100 23), oo 25 (oB .neq 100 20 24)] [(0, 1), (0, 4), (1, 4), (2, 4), (3, 4), (0, 5), (1, 5), (2, 5), (3, 5), (4, 5), (0, 6), (1, 6), (2, 6), (3, 6), (0, 7), (1, 7), (2, 7), (3, 7)] ∧ RR r103_7 [oo 4 (.assign (.const (.bool false)))] ∧ RR r103_5 [oo 15 (oM 5), oo 16 (oC .add 3 15 1), oo 5 (oG 16)] ∧ RI b103_0 (.seq (.seq (r103_4) (.cond (.tmp 14) (.skip) (.exit 0))) (.seq (.block 1 (.seq (r103_6) (.cond (.tmp 25) (.seq (r103_7) (.ret)) (.skip)))) (r103_5))) ∧ KeepS T 103 b103_0 [0, 1, 5] ∧ RR r103_8 [oo 4 (.assign (.const (.bool true)))] ∧ FinF T 103 [.tmp 4] false := by refine ⟨runR T ?_, runR T ?_, runR T ?_, runR T ?_, runR T ?_, runD T (id := 6) ?_ ?_, runR T ?_, runR T ?_, runIc T ?_, keepS T ?_, runR T ?_, finI T (F := Tryz.f103) ?_ ?_ ?_⟩ <;> kernel_rfl
def r150_0 := nv 2 Tryz.f150
def r150_1 := nv 6 Tryz.f150
theorem ent150 : Ent T 150 11 (.seq (r150_0) (.seq (r150_1) (.ret))) := entI T (F := Tryz.f150) (by kernel_rfl) (by kernel_rfl) (by kernel_rfl)
@[go_sem ↓] theorem run150 : RR r150_0 [oo 2 (.box 85 (.tmp 0)), oo 4 (oi 0)] ∧ RR r150_1 [oo 5 (oL 85 2), oo 6 (o1 63 5 85), oo 7 (oM 1), oo 8 (.call ⟨.value (.func 137), #[.tmp 7, .const (.int .i64 1), .const (.int .i64 16384)], #[3, 3, 3]⟩), oo 9 (.buildSlice 187 2 #[(0, .tmp 6), (1, .tmp 8)]), oo 10 (o1 114 9 187), oo 4 (oG 10)] ∧ FinF T 150 [.tmp 4] false := by refine ⟨runR T ?_, runR T ?_, finI T (F := Tryz.f150) ?_ ?_ ?_⟩ <;> kernel_rfl
@[go_sem] theorem fr213 : Fct T 213 false none false ∧ Res1 T 213 28 := by refine ⟨⟨?_, ?_, ?_⟩, res1 T (F := Tryz.f213) ?_ ?_⟩ <;> kernel_rfl
@[go_sem] theorem fr214 : Fct T 214 false none false ∧ Res1 T 214 3 := by refine ⟨⟨?_, ?_, ?_⟩, res1 T (F := Tryz.f214) ?_ ?_⟩ <;> kernel_rfl
def r151_0 := nv 2 Tryz.f151
def r151_1 := nv 6 Tryz.f151
def r151_2 := nv 14 Tryz.f151
def r151_3 := nv 30 Tryz.f151
def r151_4 := nv 124 Tryz.f151
def b151_0 := nv 500 Tryz.f151
def r151_5 := nv 1000 Tryz.f151
def r151_6 := nv 16024 Tryz.f151
def r151_7 := nv 32050 Tryz.f151
def r151_8 := nv 64102 Tryz.f151
def r151_9 := nv 4007 Tryz.f151
def r151_10 := nv 126 Tryz.f151
theorem ent151 : Ent T 151 41 (.seq (r151_0) (.seq (r151_1) (.seq (r151_2) (.seq (r151_3) (.seq (.seq (r151_4) (.block 0 (.loop b151_0))) (.seq (r151_10) (.ret))))))) := entI T (F := Tryz.f151) (by kernel_rfl) (by kernel_rfl) (by kernel_rfl)
@[go_sem ↓] theorem run151 : RR r151_0 [oo 2 (.box 85 (.tmp 0)), oo 4 on] ∧ RR r151_1 [oo 10 (oF 85 2 2), oo 11 (oL 80 10), oo 12 (.call ⟨.value (.func 213), #[.tmp 11, .func 214], #[80, 235]⟩), oo 5 (oG 12)] ∧ RR r151_2 [oo 13 (oM 5), oo 14 (o1 183 13 28), oo 6 (oG 14)] ∧ RR r151_3 [oo 7 on] ∧ RR r151_4 [oo 15 (oM 5), oo 16 (oN 15 28), oo 17 (.move (.const (.int .i64 0)))] ∧ RR r151_5 [oo 18 (oB .lss 3 17 16)] ∧ RR r151_6 [oo 19 (oM 17), oo 20 (oI 28 15 17), oo 21 (oL 3 20), oo 8 (oG 19), oo 9 (oG 21)] ∧ RR r151_7 [oo 22 (oM 9), oo 23 (oM 6), oo 24 (oM 1), oo 25 (oB .add 3 23 24), oo 26 (oB .geq 3 22 25)] ∧ RD r151_8 151 [oo 27 (oM 7), oo 28 (oM 8), oo 29 (oF 85 2 0), oo 30 (oL 3 29), oo 31 (oB .rem 3 28 30), oo 32 (oM 8), oo 33 (oF 85 2 0), oo 34 (oL 3 33), oo 35 (oB .quo 3 32 34), oo 36 (.build 100 #[(0, .tmp 31), (1, .tmp 35)]), oo 37 (oS 48 36), oo 38 (oA 27 37 48), oo 7 (oG 38)] [(0, 1), (0, 2), (1, 2), (0, 3), (1, 3), (0, 4), (0, 5), (1, 5), (2, 5), (3, 5), (4, 5), (0, 6), (1, 6), (2, 6), (3, 6), (4, 6), (5, 6), (0, 7), (1, 7), (2, 7), (3, 7), (4, 7), (5, 7), (0, 8), (1, 8), (2, 8), (3, 8), (4, 8), (0, 9), (0, 10)] ∧ RR r151_9 [oo 39 (oC .add 3 17 1), oo 17 (oM 39)] ∧ RI b151_0 (.seq (r151_5) (.seq (.cond (.tmp 18) (.skip) (.exit 0)) (.seq (.block 1 (.seq (r151_6) (.seq (r151_7) (.cond (.tmp 26) (r151_8) (.skip))))) (r151_9)))) ∧ KeepS T 151 b151_0 [1, 2, 6, 7, 15, 16, 17] ∧ RR r151_10 [oo 40 (oM 7), oo 4 (oG 40)] ∧ FinF T 151 [.tmp 4] false := by refine ⟨runR T ?_, runR T ?_, runR T ?_, runR T ?_, runR T ?_, runR T ?_, runR T ?_, runR T ?_, runD T (id := 8) ?_ ?_, runR T ?_, runIc T ?_, keepS T ?_, runR T ?_, finI T (F := Tryz.f151) ?_ ?_ ?_⟩ <;> kernel_rfl
def r152_0 := nv 2 Tryz.f152
def r152_1 := nv 6 Tryz.f152
theorem ent152 : Ent T 152 16 (.seq (r152_0) (.seq (r152_1) (.ret))) := entI T (F := Tryz.f152) (by kernel_rfl) (by kernel_rfl) (by kernel_rfl)
@[go_sem ↓] theorem run152 : RR r152_0 [oo 2 (.box 100 (.tmp 0)), oo 3 (.box 100 (.tmp 1)), oo 4 (.alloc 100)] ∧ RR r152_1 [oo 5 (oF 100 2 0), oo 6 (oL 3 5), oo 7 (oF 100 3 0), oo 8 (oL 3 7), oo 9 (oB .add 3 6 8), oo 10 (oF 100 2 1), oo 11 (oL 3 10), oo 12 (oF 100 3 1), oo 13 (oL 3 12), oo 14 (oB .add 3 11 13), oo 15 (.build 100 #[(0, .tmp 9), (1, .tmp 14)]), ow 100 4 15] ∧ FinF T 152 [.cell 4 100] false := by refine ⟨runR T ?_, runR T ?_, finI T (F := Tryz.f152) ?_ ?_ ?_⟩ <;> kernel_rfl
def r153_0 := nv 2 Tryz.f153
def r153_1 := nv 6 Tryz.f153
def r153_2 := nv 28 Tryz.f153
def b153_0 := nv 116 Tryz.f153
def r153_3 := nv 232 Tryz.f153
def r153_4 := nv 3736 Tryz.f153
def r153_5 := nv 3737 Tryz.f153
def r153_6 := nv 935 Tryz.f153
def r153_7 := nv 30 Tryz.f153
theorem ent153 : Ent T 153 22 (.seq (r153_0) (.seq (r153_1) (.seq (.seq (r153_2) (.block 0 (.loop b153_0))) (.seq (r153_7) (.ret))))) := entI T (F := Tryz.f153) (by kernel_rfl) (by kernel_rfl) (by kernel_rfl)
@[go_sem ↓] theorem run153 : RR r153_0 [oo 4 on] ∧ RR r153_1 [oo 5 on] ∧ RR r153_2 [oo 8 (oM 0), oo 9 (oN 8 225), oo 10 (.move (.const (.int .i64 0)))] ∧ RR r153_3 [oo 11 (oB .lss 3 10 9)] ∧ RR r153_4 [oo 12 (oI 225 8 10), oo 13 (oL 227 12), oo 7 (.alloc 227), ow 227 7 13] ∧ RR r153_5 [oo 14 (oM 5), oo 15 (oM 1), oo 16 (oL 227 7), oo 17 (.call ⟨.value (.tmp 15), #[.tmp 16], #[227]⟩), oo 18 (oS 87 17), oo 19 (oA 14 18 87), oo 5 (oG 19)] ∧ RR r153_6 [oo 20 (oC .add 3 10 1), oo 10 (oM 20)] ∧ RI b153_0 (.seq (r153_3) (.seq (.cond (.tmp 11) (.skip) (.exit 0)) (.seq (.block 1 (.seq (r153_4) (r153_5))) (r153_6)))) ∧ KeepS T 153 b153_0 [1, 5, 8, 9, 10] ∧ RR r153_7 [oo 21 (oM 5), oo 4 (oG 21)] ∧ FinF T 153 [.tmp 4] false := by refine ⟨runR T ?_, runR T ?_, runR T ?_, runR T ?_, runR T ?_, runR T ?_, runR T ?_, runIc T ?_, keepS T ?_, runR T ?_, finI T (F := Tryz.f153) ?_ ?_ ?_⟩ <;> kernel_rfl
def r154_0 := nv 2 Tryz.f154
def r154_1 := nv 6 Tryz.f154
theorem ent154 : Ent T 154 5 (.seq (r154_0) (.seq (r154_1) (.ret))) := entI T (F := Tryz.f154) (by kernel_rfl) (by kernel_rfl) (by kernel_rfl)
@[go_sem ↓] theorem run154 : RR r154_0 [oo 1 (.box 227 (.tmp 0)), oo 2 (.alloc 153)] ∧ RR r154_1 [oo 3 (oF 227 1 0), oo 4 (oL 153 3), ow 153 2 4] ∧ FinF T 154 [.cell 2 153] false := by refine ⟨runR T ?_, runR T ?_, finI T (F := Tryz.f154) ?_ ?_ ?_⟩ <;> kernel_rfl
@[go_sem] theorem fr215 : Fct T 215 false none false ∧ Res1 T 215 3 := by refine ⟨⟨?_, ?_, ?_⟩, res1 T (F := Tryz.f215) ?_ ?_⟩ <;> kernel_rfl
def r155_0 := nv 2 Tryz.f155
def r155_1 := nv 6 Tryz.f155
theorem ent155 : Ent T 155 5 (.seq (r155_0) (.seq (r155_1) (.ret))) := entI T (F := Tryz.f155) (by kernel_rfl) (by kernel_rfl) (by kernel_rfl)
@[go_sem ↓] theorem run155 : RR r155_0 [oo 2 (oi 0)] ∧ RR r155_1 [oo 3 (oM 0), oo 4 (.call ⟨.value (.func 215), #[.tmp 3, .const (.int .i64 16384)], #[150, 3]⟩), oo 2 (oG 4)] ∧ FinF T 155 [.tmp 2] false := by refine ⟨runR T ?_, runR T ?_, finI T (F := Tryz.f155) ?_ ?_ ?_⟩ <;> kernel_rfl
def r156_0 := nv 2 Tryz.f156
def r156_1 := nv 6 Tryz.f156
theorem ent156 : Ent T 156 6 (.seq (r156_0) (.seq (r156_1) (.ret))) := entI T (F := Tryz.f156) (by kernel_rfl) (by kernel_rfl) (by kernel_rfl)
@[go_sem ↓] theorem run156 : RR r156_0 [oo 2 (oi 0)] ∧ RR r156_1 [oo 3 (oM 0), oo 4 (.binOp .mul 150 (.const (.float .f32 1098907648)) (.tmp 3) 150), oo 5 (.convert 150 3 (.tmp 4)), oo 2 (oG 5)] ∧ FinF T 156 [.tmp 2] false := by refine ⟨runR T ?_, runR T ?_, finI T (F := Tryz.f156) ?_ ?_ ?_⟩ <;> kernel_rfl
def r157_0 := nv 2 Tryz.f157
def r157_1 := nv 6 Tryz.f157
def r157_2 := nv 14 Tryz.f157
theorem ent157 : Ent T 157 25 (.seq (r157_0) (.seq (r157_1) (.seq (r157_2) (.ret)))) := entI T (F := Tryz.f157) (by kernel_rfl) (by kernel_rfl) (by kernel_rfl)
@[go_sem ↓] theorem run157 : RR r157_0 [oo 2 (.box 100 (.tmp 0)), oo 3 (.box 100 (.tmp 1)), oo 4 (.assign (.const (.bool false)))] ∧ RD r157_1 157 [oo 7 (oF 100 2 0), oo 8 (oL 3 7), oo 9 (oF 100 3 0), oo 10 (oL 3 9), oo 11 (oB .sub 3 8 10), oo 12 (oF 100 2 1), oo 13 (oL 3 12), oo 14 (oF 100 3 1), oo 15 (oL 3 14), oo 16 (oB .sub 3 13 15), oo 5 (oG 11), oo 6 (oG 16)] [(0, 2), (1, 2), (0, 3), (1, 3), (0, 5), (1, 5), (2, 5), (3, 5), (4, 5), (0, 6), (1, 6), (2, 6), (3, 6), (4, 6), (0, 7), (1, 7), (2, 7), (3, 7), (4, 7), (5, 7), (6, 7), (0, 8), (1, 8), (2, 8), (3, 8), (4, 8), (5, 8), (6, 8), (0, 9), (1, 9), (2, 9), (3, 9), (4, 9), (5, 10), (6, 10), (7, 10), (8, 10), (9, 10)] ∧ RR r157_2 [oo 17 (oM 5), oo 18 (oM 5), oo 19 (oB .mul 3 17 18), oo 20 (oM 6), oo 21 (oM 6), oo 22 (oB .mul 3 20 21), oo 23 (oB .add 3 19 22), oo 24 (oC .eql 3 23 1), oo 4 (oG 24)] ∧ FinF T 157 [.tmp 4] false := by refine ⟨runR T ?_, runD T (id := 1) ?_ ?_, runR T ?_, finI T (F := Tryz.f157) ?_ ?_ ?_⟩ <;> kernel_rfl
def r158_0 := nv 2 Tryz.f158
def r158_1 := nv 6 Tryz.f158
def r158_2 := nv 28 Tryz.f158
def b158_0 := nv 116 Tryz.f158
def r158_3 := nv 232 Tryz.f158
def r158_4 := nv 3736 Tryz.f158
def r158_5 := nv 3737 Tryz.f158
def r158_6 := nv 935 Tryz.f158
def r158_7 := nv 30 Tryz.f158
theorem ent158 : Ent T 158 22 (.seq (r158_0) (.seq (r158_1) (.seq (.seq (r158_2) (.block 0 (.loop b158_0))) (.seq (r158_7) (.ret))))) := entI T (F := Tryz.f158) (by kernel_rfl) (by kernel_rfl) (by kernel_rfl)
@[go_sem ↓] theorem run158 : RR r158_0 [oo 4 on] ∧ RR r158_1 [oo 5 on] ∧ RR r158_2 [oo 8 (oM 0), oo 9 (oN 8 80), oo 10 (.move (.const (.int .i64 0)))] ∧ RR r158_3 [oo 11 (oB .lss 3 10 9)] ∧ RR r158_4 [oo 12 (oI 80 8 10), oo 13 (oL 150 12), oo 7 (oG 13)] ∧ RR r158_5 [oo 14 (oM 5), oo 15 (oM 1), oo 16 (oM 7), oo 17 (.call ⟨.value (.tmp 15), #[.tmp 16], #[150]⟩), oo 18 (oS 187 17), oo 19 (oA 14 18 187), oo 5 (oG 19)] ∧ RR r158_6 [oo 20 (oC .add 3 10 1), oo 10 (oM 20)] ∧ RI b158_0 (.seq (r158_3) (.seq (.cond (.tmp 11) (.skip) (.exit 0)) (.seq (.block 1 (.seq (r158_4) (r158_5))) (r158_6)))) ∧ KeepS T 158 b158_0 [1, 5, 8, 9, 10] ∧ RR r158_7 [oo 21 (oM 5), oo 4 (oG 21)] ∧ FinF T 158 [.tmp 4] false := by refine ⟨runR T ?_, runR T ?_, runR T ?_, runR T ?_, runR T ?_, runR T ?_, runR T ?_, runIc T ?_, keepS T ?_, runR T ?_, finI T (F := Tryz.f158) ?_ ?_ ?_⟩ <;> kernel_rfl
@[go_sem] theorem fr216 : Fct T 216 false none false ∧ Res1 T 216 29 := by refine ⟨⟨?_, ?_, ?_⟩, res1 T (F := Tryz.f216) ?_ ?_⟩ <;> kernel_rfl
@[go_sem] theorem fr217 : Fct T 217 false none false ∧ Res1 T 217 29 := by refine ⟨⟨?_, ?_, ?_⟩, res1 T (F := Tryz.f217) ?_ ?_⟩ <;> kernel_rfl
@[go_sem] theorem fr218 : Fct T 218 false none false ∧ Res1 T 218 4 := by refine ⟨⟨?_, ?_, ?_⟩, res1 T (F := Tryz.f218) ?_ ?_⟩ <;> kernel_rfl
@[go_sem] theorem fr219 : Fct T 219 false none false ∧ Res1 T 219 29 := by refine ⟨⟨?_, ?_, ?_⟩, res1 T (F := Tryz.f219) ?_ ?_⟩ <;> kernel_rfl
def r159_0 := nv 2 Tryz.f159
def r159_1 := nv 6 Tryz.f159
theorem ent159 : Ent T 159 10 (.seq (r159_0) (.seq (r159_1) (.ret))) := entI T (F := Tryz.f159) (by kernel_rfl) (by kernel_rfl) (by kernel_rfl)
@[go_sem ↓] theorem run159 : RR r159_0 [oo 2 (oi 0)] ∧ RR r159_1 [oo 3 (oM 0), oo 4 (o1 218 3 150), oo 5 (.call ⟨.value (.func 217), #[.tmp 4, .const (.int .i64 1)], #[4, 29]⟩), oo 6 (oM 0), oo 7 (.call ⟨.value (.func 219), #[.tmp 6, .const (.float .f32 1149239296)], #[150, 150]⟩), oo 8 (.buildSlice 187 2 #[(0, .tmp 5), (1, .tmp 7)]), oo 9 (o1 216 8 187), oo 2 (oG 9)] ∧ FinF T 159 [.tmp 2] false := by refine ⟨runR T ?_, runR T ?_, finI T (F := Tryz.f159) ?_ ?_ ?_⟩ <;> kernel_rfl
def r213_0 := nv 2 Tryz.f213
def r213_1 := nv 6 Tryz.f213
def r213_2 := nv 28 Tryz.f213
def b213_0 := nv 116 Tryz.f213
def r213_3 := nv 232 Tryz.f213
def r213_4 := nv 3736 Tryz.f213
def r213_5 := nv 3737 Tryz.f213
def r213_6 := nv 935 Tryz.f213
def r213_7 := nv 30 Tryz.f213
theorem ent213 : Ent T 213 22 (.seq (r213_0) (.seq (r213_1) (.seq (.seq (r213_2) (.block 0 (.loop b213_0))) (.seq (r213_7) (.ret))))) := entI T (F := Tryz.f213) (by kernel_rfl) (by kernel_rfl) (by kernel_rfl)
@[go_sem ↓] theorem run213 : RR r213_0 [oo 4 on] ∧ RR r213_1 [oo 5 on] ∧ RR r213_2 [oo 8 (oM 0), oo 9 (oN 8 80), oo 10 (.move (.const (.int .i64 0)))] ∧ RR r213_3 [oo 11 (oB .lss 3 10 9)] ∧ RR r213_4 [oo 12 (oI 80 8 10), oo 13 (oL 150 12), oo 7 (oG 13)] ∧ RR r213_5 [oo 14 (oM 5), oo 15 (oM 1), oo 16 (oM 7), oo 17 (.call ⟨.value (.tmp 15), #[.tmp 16], #[150]⟩), oo 18 (oS 28 17), oo 19 (oA 14 18 28), oo 5 (oG 19)] ∧ RR r213_6 [oo 20 (oC .add 3 10 1), oo 10 (oM 20)] ∧ RI b213_0 (.seq (r213_3) (.seq (.cond (.tmp 11) (.skip) (.exit 0)) (.seq (.block 1 (.seq (r213_4) (r213_5))) (r213_6)))) ∧ KeepS T 213 b213_0 [1, 5, 8, 9, 10] ∧ RR r213_7 [oo 21 (oM 5), oo 4 (oG 21)] ∧ FinF T 213 [.tmp 4] false := by refine ⟨runR T ?_, runR T ?_, runR T ?_, runR T ?_, runR T ?_, runR T ?_, runR T ?_, runIc T ?_, keepS T ?_, runR T ?_, finI T (F := Tryz.f213) ?_ ?_ ?_⟩ <;> kernel_rfl
def r214_0 := nv 2 Tryz.f214
def r214_1 := nv 6 Tryz.f214
theorem ent214 : Ent T 214 6 (.seq (r214_0) (.seq (r214_1) (.ret))) := entI T (F := Tryz.f214) (by kernel_rfl) (by kernel_rfl) (by kernel_rfl)
@[go_sem ↓] theorem run214 : RR r214_0 [oo 2 (oi 0)] ∧ RR r214_1 [oo 3 (oM 0), oo 4 (.binOp .mul 150 (.const (.float .f32 1098907648)) (.tmp 3) 150), oo 5 (.convert 150 3 (.tmp 4)), oo 2 (oG 5)] ∧ FinF T 214 [.tmp 2] false := by refine ⟨runR T ?_, runR T ?_, finI T (F := Tryz.f214) ?_ ?_ ?_⟩ <;> kernel_rfl
def r215_0 := nv 2 Tryz.f215
def r215_1 := nv 12 Tryz.f215
def r215_2 := nv 52 Tryz.f215
def r215_3 := nv 14 Tryz.f215
def r215_4 := nv 60 Tryz.f215
def r215_5 := nv 244 Tryz.f215
def r215_6 := nv 62 Tryz.f215
theorem ent215 : Ent T 215 31 (.seq (r215_0) (.seq (.seq (r215_1) (.cond (.tmp 9) (.seq (r215_2) (.ret)) (.skip))) (.seq (r215_3) (.seq (.seq (r215_4) (.cond (.tmp 30) (.seq (r215_5) (.ret)) (.skip))) (.seq (r215_6) (.ret)))))) := entI T (F := Tryz.f215) (by kernel_rfl) (by kernel_rfl) (by kernel_rfl)
@[go_sem ↓] theorem run215 : RR r215_0 [oo 4 (oi 0)] ∧ RR r215_1 [oo 6 (oM 0), oo 7 (oM 0), oo 8 (oB .sub 150 6 7), oo 9 (.binOp .neq 150 (.tmp 8) (.const (.float .f32 0)) 150)] ∧ RR r215_2 [oo 4 (oi 1)] ∧ RR r215_3 [oo 10 (oM 0), oo 11 (.convert 150 310 (.tmp 10)), oo 12 (.binOp .mul 310 (.const (.float .f64 4625196817309499392)) (.tmp 11) 310), oo 5 (oG 12)] ∧ RR r215_4 [oo 13 (oM 5), oo 14 (oM 1), oo 15 (.convert 3 310 (.tmp 14)), oo 16 (.binOp .sub 310 (.const (.float .f64 0)) (.tmp 15) 310), oo 17 (oB .lss 310 13 16), oo 18 (oM 17), of 19 (oM 5) 18, of 20 (oM 1) 18, of 21 (.convert 3 310 (.tmp 20)) 18, of 22 (oB .gtr 310 19 21) 18, oo 23 (.pick (.tmp 18) (.const (.bool true)) (.tmp 22)), oo 24 (oM 23), of 25 (oM 5) 24, of 26 (.convert 310 3 (.tmp 25)) 24, of 27 (.convert 3 310 (.tmp 26)) 24, of 28 (oM 5) 24, of 29 (oB .neq 310 27 28) 24, oo 30 (.pick (.tmp 24) (.const (.bool true)) (.tmp 29))] ∧ RR r215_5 [oo 4 (oi 3)] ∧ RR r215_6 [oo 4 (oi 0)] ∧ FinF T 215 [.tmp 4] false := by refine ⟨runR T ?_, runR T ?_, runR T ?_, runR T ?_, runR T ?_, runR T ?_, runR T ?_, finI T (F := Tryz.f215) ?_ ?_ ?_⟩ <;> kernel_rfl
def r216_0 := nv 2 Tryz.f216
def r216_1 := nv 12 Tryz.f216
def b216_0 := nv 52 Tryz.f216
def r216_2 := nv 104 Tryz.f216
def r216_3 := nv 1688 Tryz.f216
def r216_4 := nv 3378 Tryz.f216
def r216_5 := nv 13516 Tryz.f216
def r216_6 := nv 423 Tryz.f216
def r216_7 := nv 14 Tryz.f216
theorem ent216 : Ent T 216 15 (.seq (r216_0) (.seq (.seq (r216_1) (.block 0 (.loop b216_0))) (.seq (r216_7) (.ret)))) := entI T (F := Tryz.f216) (by kernel_rfl) (by kernel_rfl) (by kernel_rfl)
@[go_sem ↓] theorem run216 : RR r216_0 [oo 2 (oi 0)] ∧ RR r216_1 [oo 5 (oM 0), oo 6 (oN 5 187), oo 7 (.move (.const (.int .i64 0)))] ∧ RR r216_2 [oo 8 (oB .lss 3 7 6)] ∧ RR r216_3 [oo 9 (oI 187 5 7), oo 10 (oL 29 9), oo 4 (oG 10)] ∧ RR r216_4 [oo 11 (oM 4), oo 12 (oC .neq 29 11 0)] ∧ RR r216_5 [oo 13 (oM 4), oo 2 (oG 13)] ∧ RR r216_6 [oo 14 (oC .add 3 7 1), oo 7 (oM 14)] ∧ RI b216_0 (.seq (r216_2) (.seq (.cond (.tmp 8) (.skip) (.exit 0)) (.seq (.block 1 (.seq (r216_3) (.seq (r216_4) (.cond (.tmp 12) (.seq (r216_5) (.ret)) (.skip))))) (r216_6)))) ∧ KeepS T 216 b216_0 [5, 6, 7] ∧ RR r216_7 [oo 2 (oi 0)] ∧ FinF T 216 [.tmp 2] false := by refine ⟨runR T ?_, runR T ?_, runR T ?_, runR T ?_, runR T ?_, runR T ?_, runR T ?_, runIc T ?_, keepS T ?_, runR T ?_, finI T (F := Tryz.f216) ?_ ?_ ?_⟩ <;> kernel_rfl
def r217_0 := nv 2 Tryz.f217
def r217_1 := nv 12 Tryz.f217
def r217_2 := nv 52 Tryz.f217
def r217_3 := nv 14 Tryz.f217
theorem ent217 : Ent T 217 7 (.seq (r217_0) (.seq (.seq (r217_1) (.cond (.tmp 5) (.seq (r217_2) (.ret)) (.skip))) (.seq (r217_3) (.ret)))) := entI T (F := Tryz.f217) (by kernel_rfl) (by kernel_rfl) (by kernel_rfl)
@[go_sem ↓] theorem run217 : RR r217_0 [oo 4 (oi 0)] ∧ RR r217_1 [oo 5 (oM 0)] ∧ RR r217_2 [oo 6 (oM 1), oo 4 (oG 6)] ∧ RR r217_3 [oo 4 (oi 0)] ∧ FinF T 217 [.tmp 4] false := by refine ⟨runR T ?_, runR T ?_, runR T ?_, runR T ?_, finI T (F := Tryz.f217) ?_ ?_ ?_⟩ <;> kernel_rfl
@[go_sem] theorem fr236 : Fct T 236 false none false ∧ Res1 T 236 4 := by refine ⟨⟨?_, ?_, ?_⟩, res1 T (F := Tryz.f236) ?_ ?_⟩ <;> kernel_rfl
@[go_sem] theorem fr237 : Fct T 237 false none false ∧ Res1 T 237 4 := by refine ⟨⟨?_, ?_, ?_⟩, res1 T (F := Tryz.f237) ?_ ?_⟩ <;> kernel_rfl
def r218_0 := nv 2 Tryz.f218
def r218_1 := nv 6 Tryz.f218
theorem ent218 : Ent T 218 11 (.seq (r218_0) (.seq (r218_1) (.ret))) := entI T (F := Tryz.f218) (by kernel_rfl) (by kernel_rfl) (by kernel_rfl)
@[go_sem ↓] theorem run218 : RR r218_0 [oo 2 (.assign (.const (.bool false)))] ∧ RR r218_1 [oo 3 (oM 0), oo 4 (.convert 150 310 (.tmp 3)), oo 5 (o1 236 4 310), oo 6 (oM 5), of 7 (oM 0) 6, of 8 (.convert 150 310 (.tmp 7)) 6, of 9 (.call ⟨.value (.func 237), #[.tmp 8, .const (.int .i64 0)], #[310, 3]⟩) 6, oo 10 (.pick (.tmp 6) (.const (.bool true)) (.tmp 9)), oo 2 (oG 10)] ∧ FinF T 218 [.tmp 2] false := by refine ⟨runR T ?_, runR T ?_, finI T (F := Tryz.f218) ?_ ?_ ?_⟩ <;> kernel_rfl
@[go_sem] theorem fr238 : Fct T 238 false none false ∧ Res1 T 238 310 := by refine ⟨⟨?_, ?_, ?_⟩, res1 T (F := Tryz.f238) ?_ ?_⟩ <;> kernel_rfl
def r219_0 := nv 2 Tryz.f219
def r219_1 := nv 6 Tryz.f219
theorem ent219 : Ent T 219 25 (.seq (r219_0) (.seq (r219_1) (.ret))) := entI T (F := Tryz.f219) (by kernel_rfl) (by kernel_rfl) (by kernel_rfl)
@[go_sem ↓] theorem run219 : RR r219_0 [oo 4 (oi 0)] ∧ RR r219_1 [oo 5 (oM 0), oo 6 (oM 1), oo 7 (.unOp .neg 150 (.tmp 6)), oo 8 (oB .lss 150 5 7), oo 9 (oM 8), of 10 (oM 0) 9, of 11 (oM 1) 9, of 12 (oB .gtr 150 10 11) 9, oo 13 (.pick (.tmp 9) (.const (.bool true)) (.tmp 12)), oo 14 (oM 13), of 15 (oM 0) 14, of 16 (.binOp .mul 150 (.const (.float .f32 1098907648)) (.tmp 15) 150) 14, of 17 (.convert 150 310 (.tmp 16)) 14, of 18 (o1 238 17 310) 14, of 19 (.convert 310 150 (.tmp 18)) 14, of 20 (oM 0) 14, of 21 (.binOp .mul 150 (.const (.float .f32 1098907648)) (.tmp 20) 150) 14, of 22 (oB .neq 150 19 21) 14, oo 23 (.pick (.tmp 14) (.const (.bool true)) (.tmp 22)), oo 24 (.call ⟨.value (.func 217), #[.tmp 23, .const (.int .i64 3)], #[4, 29]⟩), oo 4 (oG 24)] ∧ FinF T 219 [.tmp 4] false := by refine ⟨runR T ?_, runR T ?_, finI T (F := Tryz.f219) ?_ ?_ ?_⟩ <;> kernel_rfl
def r236_0 := nv 2 Tryz.f236
def r236_1 := nv 6 Tryz.f236
theorem ent236 : Ent T 236 6 (.seq (r236_0) (.seq (r236_1) (.ret))) := entI T (F := Tryz.f236) (by kernel_rfl) (by kernel_rfl) (by kernel_rfl)
@[go_sem ↓] theorem run236 : RR r236_0 [oo 2 (.assign (.const (.bool false)))] ∧ RR r236_1 [oo 3 (oM 0), oo 4 (oM 0), oo 5 (oB .neq 310 3 4), oo 2 (oG 5)] ∧ FinF T 236 [.tmp 2] false := by refine ⟨runR T ?_, runR T ?_, finI T (F := Tryz.f236) ?_ ?_ ?_⟩ <;> kernel_rfl
@[go_sem] theorem fr258 : Fct T 258 false none false ∧ Res1 T 258 310 := by refine ⟨⟨?_, ?_, ?_⟩, res1 T (F := Tryz.f258) ?_ ?_⟩ <;> kernel_rfl
def r237_0 := nv 2 Tryz.f237
def r237_1 := nv 12 Tryz.f237
def r237_2 := nv 26 Tryz.f237
def r237_3 := nv 54 Tryz.f237
def r237_4 := nv 110 Tryz.f237
def r237_5 := nv 14 Tryz.f237
theorem ent237 : Ent T 237 15 (.seq (r237_0) (.seq (.seq (r237_1) (.cond (.tmp 6) (r237_2) (.seq (r237_3) (.cond (.tmp 10) (r237_4) (.skip))))) (.seq (r237_5) (.ret)))) := entI T (F := Tryz.f237) (by kernel_rfl) (by kernel_rfl) (by kernel_rfl)
@[go_sem ↓] theorem run237 : RR r237_0 [oo 4 (.assign (.const (.bool false)))] ∧ RR r237_1 [oo 5 (oM 1), oo 6 (oC .eql 3 5 0)] ∧ RR r237_2 [oo 7 (oM 0), oo 8 (o1 258 7 310), oo 0 (oG 8)] ∧ RR r237_3 [oo 9 (oM 1), oo 10 (oC .lss 3 9 0)] ∧ RR r237_4 [oo 11 (oM 0), oo 12 (.unOp .neg 310 (.tmp 11)), oo 0 (oG 12)] ∧ RR r237_5 [oo 13 (oM 0), oo 14 (.binOp .gtr 310 (.tmp 13) (.const (.float .f64 9218868437227405311)) 310), oo 4 (oG 14)] ∧ FinF T 237 [.tmp 4] false := by refine ⟨runR T ?_, runR T ?_, runR T ?_, runR T ?_, runR T ?_, runR T ?_, finI T (F := Tryz.f237) ?_ ?_ ?_⟩ <;> kernel_rfl
@[go_sem] theorem fct259 : Fct T 259 false (some floorV) false := ⟨by kernel_rfl, by kernel_rfl, by kernel_rfl⟩
@[go_sem] theorem fr260 : Fct T 260 false none false ∧ Res1 T 260 310 := by refine ⟨⟨?_, ?_, ?_⟩, res1 T (F := Tryz.f260) ?_ ?_⟩ <;> kernel_rfl
def r238_0 := nv 2 Tryz.f238
def r238_1 := nv 24 Tryz.f238
def r238_2 := nv 14 Tryz.f238
theorem ent238 : Ent T 238 7 (.seq (r238_0) (.seq (.cond (.const (.bool true)) (.seq (r238_1) (.ret)) (.skip)) (.seq (r238_2) (.ret)))) := entI T (F := Tryz.f238) (by kernel_rfl) (by kernel_rfl) (by kernel_rfl)
@[go_sem ↓] theorem run238 : RR r238_0 [oo 2 (.assign (.const (.float .f64 0)))] ∧ RR r238_1 [oo 3 (oM 0), oo 4 (o1 259 3 310), oo 2 (oG 4)] ∧ RR r238_2 [oo 5 (oM 0), oo 6 (o1 260 5 310), oo 2 (oG 6)] ∧ FinF T 238 [.tmp 2] false := by refine ⟨runR T ?_, runR T ?_, runR T ?_, finI T (F := Tryz.f238) ?_ ?_ ?_⟩ <;> kernel_rfl
@[go_sem] theorem fct283 : Fct T 283 false (some frombitsV) false := ⟨by kernel_rfl, by kernel_rfl, by kernel_rfl⟩
@[go_sem] theorem fct284 : Fct T 284 false (some bitsV) false := ⟨by kernel_rfl, by kernel_rfl, by kernel_rfl⟩
def r258_0 := nv 2 Tryz.f258
def r258_1 := nv 6 Tryz.f258
theorem ent258 : Ent T 258 7 (.seq (r258_0) (.seq (r258_1) (.ret))) := entI T (F := Tryz.f258) (by kernel_rfl) (by kernel_rfl) (by kernel_rfl)
@[go_sem ↓] theorem run258 : RR r258_0 [oo 2 (.assign (.const (.float .f64 0)))] ∧ RR r258_1 [oo 3 (oM 0), oo 4 (o1 284 3 310), oo 5 (.binOp .andNot 329 (.tmp 4) (.const (.int .u64 9223372036854775808)) 329), oo 6 (o1 283 5 329), oo 2 (oG 6)] ∧ FinF T 258 [.tmp 2] false := by refine ⟨runR T ?_, runR T ?_, finI T (F := Tryz.f258) ?_ ?_ ?_⟩ <;> kernel_rfl
end Go.Den.FaT
end
