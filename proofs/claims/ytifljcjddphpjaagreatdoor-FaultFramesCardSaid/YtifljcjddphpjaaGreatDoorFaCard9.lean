import Derived.Test.YtifljcjddphpjaaGreatDoorFaX2
import Derived.Test.YtifljcjddphpjaaGreatDoorFaClosed9
import Derived.Test.YtifljcjddphpjaaGreatDoorFaK6
import Derived.Test.YtifljcjddphpjaaGreatDoorFaK7
import Derived.Test.YtifljcjddphpjaaGreatDoorFaK8
import Derived.Test.YtifljcjddphpjaaGreatDoorFaK9
set_option linter.all false
namespace Go.Proofs.YtifljcjddphpjaaGreatDoor
open Go Go.Proofs Go.Den Go.Den.FaT Go.ChangeShapes Go.WideShapes Go.ChangeAt Go.RowKit
set_option maxRecDepth 100000
theorem inst9 : Tryz.f9.isInstance Tryz.prog Rows.faultFramesRow.origin Rows.faultFramesRow.targs := of_decide_eq_true (by kernel_rfl)
theorem wrap9 : Tryz.f9.isWrapper Tryz.prog Rows.faultFramesRow.wrapper Rows.faultFramesRow.mainSum := by
  unfold Func.isWrapper
  first | (rw [if_pos (by decide +kernel)]; kernel_rfl) | (rw [if_neg (by decide +kernel)]; exact ⟨rfl, rfl⟩)
theorem faultFrames_holds : Rows.FaultFramesSaid :=
  OpenClaim.holds_of_wide 9 Tryz.f9 rfl rfl rfl rfl rfl rfl rfl ⟨rfl, rfl, rfl, rfl, rfl⟩ rfl rfl rfl rfl rfl fname9 Tryz.func9 closed9 inst9 wrap9
    (fun os started H enc _ => lifted9 os started H enc)
theorem faultFrames_card : Rows.FaultFramesCardSaid :=
  Claim7.holds_tied_plain_at .later [] [.data, .data, .data, .funcs] true (true, "87ed971a46d143ac664404183cb639de330058d80f7d2e21f7cd3d2d1ce3f35c") false
    faultFrames_holds (fun _ h => by cases h) wft9 (fun _ h => by cases h) faultFrames_row_tie rfl ⟨rfl, rfl⟩ mainIs9 rfl
    (fun f fn hf hfn => by
      obtain rfl : f = 9 := Option.some.inj (fname9.symm.trans hf) |>.symm
      obtain rfl : fn = Tryz.f9 := (Option.some.inj (Tryz.func9.symm.trans hfn)).symm
      exact ⟨looks9, fun j t ht => by
        have ht : Tryz.f9.params[j]? = some t := ht
        rw [Tryz.params9] at ht
        have hm : t ∈ [102, 100, 103] := by simpa using Array.mem_of_getElem? ht
        exact (show Tryz.prog.wantsStandIn t = false by simpa using List.all_eq_true.1 stand9 t hm)⟩)
    goesBy9
end Go.Proofs.YtifljcjddphpjaaGreatDoor
