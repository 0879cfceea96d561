import Derived.Test.YtifljcjddphpjaaGreatDoorFaX2
import Derived.Test.YtifljcjddphpjaaGreatDoorFaClosed4
import Derived.Test.YtifljcjddphpjaaGreatDoorFaK4f
import Derived.Test.YtifljcjddphpjaaGreatDoorFaK4g
import Derived.Test.YtifljcjddphpjaaGreatDoorFaK4h
import Derived.Test.YtifljcjddphpjaaGreatDoorFaK4i
set_option linter.all false
set_option maxHeartbeats 8000000
namespace Go.Proofs.YtifljcjddphpjaaGreatDoor
open Go Go.Proofs Go.Den Go.Den.FaT Go.ChangeShapes Go.WideShapes Go.ChangeAt Go.RowKit
set_option maxRecDepth 100000
theorem inst4 : Tryz.f4.isInstance Tryz.prog Rows.faultSetsRow.origin Rows.faultSetsRow.targs := of_decide_eq_true (by kernel_rfl)
theorem wrap4 : Tryz.f4.isWrapper Tryz.prog Rows.faultSetsRow.wrapper Rows.faultSetsRow.mainSum := by
  unfold Func.isWrapper
  first | (rw [if_pos (by decide +kernel)]; kernel_rfl) | (rw [if_neg (by decide +kernel)]; exact ⟨rfl, rfl⟩)
theorem faultSets_holds : Rows.FaultSetsSaid :=
  OpenClaim.holds_of_wide 4 Tryz.f4 rfl rfl rfl rfl rfl rfl rfl ⟨rfl, rfl, rfl, rfl, rfl⟩ rfl rfl rfl rfl rfl fname4 Tryz.func4 closed4 inst4 wrap4
    (fun os started H enc _ => lifted4 os started H enc)
theorem faultSets_card : Rows.FaultSetsCardSaid :=
  Claim7.holds_tied_plain_at .later [] [.data, .data, .data, .funcs] true (true, "87ed971a46d143ac664404183cb639de330058d80f7d2e21f7cd3d2d1ce3f35c") false
    faultSets_holds (fun _ h => by cases h) wft4 (fun _ h => by cases h) faultSets_row_tie rfl ⟨rfl, rfl⟩ mainIs4 rfl
    (fun f fn hf hfn => by
      obtain rfl : f = 4 := Option.some.inj (fname4.symm.trans hf) |>.symm
      obtain rfl : fn = Tryz.f4 := (Option.some.inj (Tryz.func4.symm.trans hfn)).symm
      exact ⟨looks4, fun j t ht => by
        have ht : Tryz.f4.params[j]? = some t := ht
        rw [Tryz.params4] at ht
        have hm : t ∈ [25, 28] := by simpa using Array.mem_of_getElem? ht
        exact (show Tryz.prog.wantsStandIn t = false by simpa using List.all_eq_true.1 stand4 t hm)⟩)
    goesBy4
end Go.Proofs.YtifljcjddphpjaaGreatDoor
