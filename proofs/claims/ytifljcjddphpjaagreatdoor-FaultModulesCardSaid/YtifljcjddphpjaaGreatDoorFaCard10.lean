import Derived.Test.YtifljcjddphpjaaGreatDoorFaX2
import Derived.Test.YtifljcjddphpjaaGreatDoorFaClosed10
import Derived.Test.YtifljcjddphpjaaGreatDoorFaK10f
import Derived.Test.YtifljcjddphpjaaGreatDoorFaK10g
import Derived.Test.YtifljcjddphpjaaGreatDoorFaK10h
import Derived.Test.YtifljcjddphpjaaGreatDoorFaK10i
set_option linter.all false
namespace Go.Proofs.YtifljcjddphpjaaGreatDoor
open Go Go.Proofs Go.Den Go.Den.FaT Go.ChangeShapes Go.WideShapes Go.ChangeAt Go.RowKit
set_option maxRecDepth 100000
theorem inst10 : Tryz.f10.isInstance Tryz.prog Rows.faultModulesRow.origin Rows.faultModulesRow.targs := of_decide_eq_true (by kernel_rfl)
theorem wrap10 : Tryz.f10.isWrapper Tryz.prog Rows.faultModulesRow.wrapper Rows.faultModulesRow.mainSum := by
  unfold Func.isWrapper
  first | (rw [if_pos (by decide +kernel)]; kernel_rfl) | (rw [if_neg (by decide +kernel)]; exact ⟨rfl, rfl⟩)
theorem faultModules_holds : Rows.FaultModulesSaid :=
  OpenClaim.holds_of_wide 10 Tryz.f10 rfl rfl rfl rfl rfl rfl rfl ⟨rfl, rfl, rfl, rfl, rfl⟩ rfl rfl rfl rfl rfl fname10 Tryz.func10 closed10 inst10 wrap10
    (fun os started H enc _ => lifted10 os started H enc)
theorem faultModules_card : Rows.FaultModulesCardSaid :=
  Claim7.holds_tied_plain_at .later [] [.data, .data, .data, .funcs] true (true, "87ed971a46d143ac664404183cb639de330058d80f7d2e21f7cd3d2d1ce3f35c") false
    faultModules_holds (fun _ h => by cases h) wft10 (fun _ h => by cases h) faultModules_row_tie rfl ⟨rfl, rfl⟩ mainIs10 rfl
    (fun f fn hf hfn => by
      obtain rfl : f = 10 := Option.some.inj (fname10.symm.trans hf) |>.symm
      obtain rfl : fn = Tryz.f10 := (Option.some.inj (Tryz.func10.symm.trans hfn)).symm
      exact ⟨looks10, fun j t ht => by
        have ht : Tryz.f10.params[j]? = some t := ht
        rw [Tryz.params10] at ht
        have hm : t ∈ [92, 102, 116] := by simpa using Array.mem_of_getElem? ht
        exact (show Tryz.prog.wantsStandIn t = false by simpa using List.all_eq_true.1 stand10 t hm)⟩)
    goesBy10
end Go.Proofs.YtifljcjddphpjaaGreatDoor
