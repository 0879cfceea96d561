import Derived.Test.YtifljcjddphpjaaGreatDoorFaX3
import Derived.Test.YtifljcjddphpjaaGreatDoorFaClosed6
import Derived.Test.YtifljcjddphpjaaGreatDoorFaK6f
import Derived.Test.YtifljcjddphpjaaGreatDoorFaK6g
import Derived.Test.YtifljcjddphpjaaGreatDoorFaK6h
import Derived.Test.YtifljcjddphpjaaGreatDoorFaK6i
set_option linter.all false
set_option maxHeartbeats 8000000
set_option maxRecDepth 100000
namespace Go.Proofs.YtifljcjddphpjaaGreatDoor
open Go Go.Proofs Go.Den Go.Den.FaT Go.ChangeShapes Go.WideShapes Go.ChangeAt Go.RowKit
theorem inst6 : Tryz.f6.isInstance Tryz.prog Rows.faultProofsRow.origin Rows.faultProofsRow.targs := of_decide_eq_true (by kernel_rfl)
theorem wrap6 : Tryz.f6.isWrapper Tryz.prog Rows.faultProofsRow.wrapper Rows.faultProofsRow.mainSum := by
  unfold Func.isWrapper
  first | (rw [if_pos (by decide +kernel)]; kernel_rfl) | (rw [if_neg (by decide +kernel)]; exact ⟨rfl, rfl⟩)
theorem faultProofs_holds : Rows.FaultProofsSaid :=
  OpenClaim.holds_of_wide 6 Tryz.f6 rfl rfl rfl rfl rfl rfl rfl ⟨rfl, rfl, rfl, rfl, rfl⟩ rfl rfl rfl rfl rfl fname6 Tryz.func6 closed6 inst6 wrap6
    (fun os started H enc _ => lifted6 os started H enc)
theorem faultProofs_card : Rows.FaultProofsCardSaid :=
  Claim7.holds_tied_plain_at .later [] [.data, .data, .data, .funcs] true (true, "87ed971a46d143ac664404183cb639de330058d80f7d2e21f7cd3d2d1ce3f35c") false
    faultProofs_holds (fun _ h => by cases h) wft6 (fun _ h => by cases h) faultProofs_row_tie rfl ⟨rfl, rfl⟩ mainIs6 rfl
    (fun f fn hf hfn => by
      obtain rfl : f = 6 := Option.some.inj (fname6.symm.trans hf) |>.symm
      obtain rfl : fn = Tryz.f6 := (Option.some.inj (Tryz.func6.symm.trans hfn)).symm
      exact ⟨looks6, fun j t ht => by
        have ht : Tryz.f6.params[j]? = some t := ht
        rw [Tryz.params6] at ht
        have hm : t ∈ [25, 3, 48] := by simpa using Array.mem_of_getElem? ht
        exact (show Tryz.prog.wantsStandIn t = false by simpa using List.all_eq_true.1 stand6 t hm)⟩)
    goesBy6
end Go.Proofs.YtifljcjddphpjaaGreatDoor
