import Derived.Test.YtifljcjddphpjaaGreatDoorFaTab
import Derived.Test.YtifljcjddphpjaaGreatDoorZQ
import Derived.Test.YtifljcjddphpjaaGreatDoorFaS0
set_option linter.all false
set_option maxHeartbeats 8000000
set_option maxRecDepth 100000
noncomputable section
namespace Go.Den.FaT
open Go Go.Proofs Go.Den
@[go_sem] theorem fr234 : Fct T 234 false none false ∧ Res1 T 234 4 := by refine ⟨⟨?_, ?_, ?_⟩, res1 T (F := Tryz.f234) ?_ ?_⟩ <;> kernel_rfl
def r275_0 := nv 2 Tryz.f275
def r275_1 := nv 6 Tryz.f275
theorem ent275 : Ent T 275 17 (.seq (r275_0) (.seq (r275_1) (.ret))) := entI T (F := Tryz.f275) (by kernel_rfl) (by kernel_rfl) (by kernel_rfl)
@[go_sem ↓] theorem run275 : RR r275_0 [oo 4 (.assign (.const (.bool false)))] ∧ RR r275_1 [oo 5 (oM 0), oo 6 (o1 234 5 3), oo 7 (oM 6), ot 8 (oM 1) 7, ot 9 (o1 234 8 3) 7, ot 10 (.unOp .not 4 (.tmp 9)) 7, oo 11 (.pick (.tmp 7) (.tmp 10) (.const (.bool false))), oo 12 (oM 11), of 13 (oM 0) 12, of 14 (oM 1) 12, of 15 (oB .lss 3 13 14) 12, oo 16 (.pick (.tmp 12) (.const (.bool true)) (.tmp 15)), oo 4 (oG 16)] ∧ FinF T 275 [.tmp 4] false := by refine ⟨runR T ?_, runR T ?_, finI T (F := Tryz.f275) ?_ ?_ ?_⟩ <;> kernel_rfl
def r234_0 := nv 2 Tryz.f234
def r234_1 := nv 6 Tryz.f234
theorem ent234 : Ent T 234 6 (.seq (r234_0) (.seq (r234_1) (.ret))) := entI T (F := Tryz.f234) (by kernel_rfl) (by kernel_rfl) (by kernel_rfl)
@[go_sem ↓] theorem run234 : RR r234_0 [oo 2 (.assign (.const (.bool false)))] ∧ RR r234_1 [oo 3 (oM 0), oo 4 (oM 0), oo 5 (oB .neq 3 3 4), oo 2 (oG 5)] ∧ FinF T 234 [.tmp 2] false := by refine ⟨runR T ?_, runR T ?_, finI T (F := Tryz.f234) ?_ ?_ ?_⟩ <;> kernel_rfl
end Go.Den.FaT
end
