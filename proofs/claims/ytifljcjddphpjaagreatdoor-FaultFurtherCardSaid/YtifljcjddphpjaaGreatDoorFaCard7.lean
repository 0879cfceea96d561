import Derived.Test.YtifljcjddphpjaaGreatDoorFaX7
import Derived.Test.YtifljcjddphpjaaGreatDoorFaClosed7
import Derived.Test.YtifljcjddphpjaaGreatDoorFaK7f
import Derived.Test.YtifljcjddphpjaaGreatDoorFaK7g
import Derived.Test.YtifljcjddphpjaaGreatDoorFaK7h
import Derived.Test.YtifljcjddphpjaaGreatDoorFaK7i
set_option linter.all false
set_option maxHeartbeats 8000000
set_option maxRecDepth 100000
namespace Go.Proofs.YtifljcjddphpjaaGreatDoor
open Go Go.Proofs Go.Den Go.Den.FaT Go.ChangeShapes Go.WideShapes Go.ChangeAt Go.RowKit
theorem inst7 : Tryz.f7.isInstance Tryz.prog Rows.faultFurtherRow.origin Rows.faultFurtherRow.targs := of_decide_eq_true (by kernel_rfl)
theorem wrap7 : Tryz.f7.isWrapper Tryz.prog Rows.faultFurtherRow.wrapper Rows.faultFurtherRow.mainSum := by
  unfold Func.isWrapper
  first | (rw [if_pos (by decide +kernel)]; kernel_rfl) | (rw [if_neg (by decide +kernel)]; exact ⟨rfl, rfl⟩)
theorem faultFurther_holds : Rows.FaultFurtherSaid :=
  OpenClaim.holds_of_wide 7 Tryz.f7 rfl rfl rfl rfl rfl rfl rfl ⟨rfl, rfl, rfl, rfl, rfl⟩ rfl rfl rfl rfl rfl fname7 Tryz.func7 closed7 inst7 wrap7
    (fun os started H enc _ => lifted7 os started H enc)
theorem faultFurther_card : Rows.FaultFurtherCardSaid :=
  Claim7.holds_tied_plain_at .later [] [.data, .data, .data, .funcs] true (true, "87ed971a46d143ac664404183cb639de330058d80f7d2e21f7cd3d2d1ce3f35c") false
    faultFurther_holds (fun _ h => by cases h) wft7 (fun _ h => by cases h) faultFurther_row_tie rfl ⟨rfl, rfl⟩ mainIs7 rfl
    (fun f fn hf hfn => by
      obtain rfl : f = 7 := Option.some.inj (fname7.symm.trans hf) |>.symm
      obtain rfl : fn = Tryz.f7 := (Option.some.inj (Tryz.func7.symm.trans hfn)).symm
      exact ⟨looks7, fun j t ht => by
        have ht : Tryz.f7.params[j]? = some t := ht
        rw [Tryz.params7] at ht
        have hm : t ∈ [25, 28, 72] := by simpa using Array.mem_of_getElem? ht
        exact (show Tryz.prog.wantsStandIn t = false by simpa using List.all_eq_true.1 stand7 t hm)⟩)
    goesBy7
end Go.Proofs.YtifljcjddphpjaaGreatDoor
