import Derived.Test.YtifljcjddphpjaaGreatDoorFaX3
import Derived.Test.YtifljcjddphpjaaGreatDoorFaClosed5
import Derived.Test.YtifljcjddphpjaaGreatDoorFaK5f
import Derived.Test.YtifljcjddphpjaaGreatDoorFaK5g
import Derived.Test.YtifljcjddphpjaaGreatDoorFaK5h
import Derived.Test.YtifljcjddphpjaaGreatDoorFaK5i
set_option linter.all false
set_option maxHeartbeats 8000000
set_option maxRecDepth 100000
namespace Go.Proofs.YtifljcjddphpjaaGreatDoor
open Go Go.Proofs Go.Den Go.Den.FaT Go.ChangeShapes Go.WideShapes Go.ChangeAt Go.RowKit
theorem inst5 : Tryz.f5.isInstance Tryz.prog Rows.faultLeastRow.origin Rows.faultLeastRow.targs := of_decide_eq_true (by kernel_rfl)
theorem wrap5 : Tryz.f5.isWrapper Tryz.prog Rows.faultLeastRow.wrapper Rows.faultLeastRow.mainSum := by
  unfold Func.isWrapper
  first | (rw [if_pos (by decide +kernel)]; kernel_rfl) | (rw [if_neg (by decide +kernel)]; exact ⟨rfl, rfl⟩)
theorem faultLeast_holds : Rows.FaultLeastSaid :=
  OpenClaim.holds_of_wide 5 Tryz.f5 rfl rfl rfl rfl rfl rfl rfl ⟨rfl, rfl, rfl, rfl, rfl⟩ rfl rfl rfl rfl rfl fname5 Tryz.func5 closed5 inst5 wrap5
    (fun os started H enc _ => lifted5 os started H enc)
theorem faultLeast_card : Rows.FaultLeastCardSaid :=
  Claim7.holds_tied_plain_at .later [] [.data, .data, .data, .funcs] true (true, "87ed971a46d143ac664404183cb639de330058d80f7d2e21f7cd3d2d1ce3f35c") false
    faultLeast_holds (fun _ h => by cases h) wft5 (fun _ h => by cases h) faultLeast_row_tie rfl ⟨rfl, rfl⟩ mainIs5 rfl
    (fun f fn hf hfn => by
      obtain rfl : f = 5 := Option.some.inj (fname5.symm.trans hf) |>.symm
      obtain rfl : fn = Tryz.f5 := (Option.some.inj (Tryz.func5.symm.trans hfn)).symm
      exact ⟨looks5, fun j t ht => by
        have ht : Tryz.f5.params[j]? = some t := ht
        rw [Tryz.params5] at ht
        have hm : t ∈ [25] := by simpa using Array.mem_of_getElem? ht
        exact (show Tryz.prog.wantsStandIn t = false by simpa using List.all_eq_true.1 stand5 t hm)⟩)
    goesBy5
end Go.Proofs.YtifljcjddphpjaaGreatDoor
