import Derived.Test.YtifljcjddphpjaaGreatDoorFaX4
import Derived.Test.YtifljcjddphpjaaGreatDoorFaClosed8
import Derived.Test.YtifljcjddphpjaaGreatDoorFaK8f
import Derived.Test.YtifljcjddphpjaaGreatDoorFaK8g
import Derived.Test.YtifljcjddphpjaaGreatDoorFaK8h
import Derived.Test.YtifljcjddphpjaaGreatDoorFaK8i
set_option linter.all false
set_option maxHeartbeats 8000000
set_option maxRecDepth 100000
namespace Go.Proofs.YtifljcjddphpjaaGreatDoor
open Go Go.Proofs Go.Den Go.Den.FaT Go.ChangeShapes Go.WideShapes Go.ChangeAt Go.RowKit
theorem inst8 : Tryz.f8.isInstance Tryz.prog Rows.faultPicturesRow.origin Rows.faultPicturesRow.targs := of_decide_eq_true (by kernel_rfl)
theorem wrap8 : Tryz.f8.isWrapper Tryz.prog Rows.faultPicturesRow.wrapper Rows.faultPicturesRow.mainSum := by
  unfold Func.isWrapper
  first | (rw [if_pos (by decide +kernel)]; kernel_rfl) | (rw [if_neg (by decide +kernel)]; exact ⟨rfl, rfl⟩)
theorem faultPictures_holds : Rows.FaultPicturesSaid :=
  OpenClaim.holds_of_wide 8 Tryz.f8 rfl rfl rfl rfl rfl rfl rfl ⟨rfl, rfl, rfl, rfl, rfl⟩ rfl rfl rfl rfl rfl fname8 Tryz.func8 closed8 inst8 wrap8
    (fun os started H enc _ => lifted8 os started H enc)
theorem faultPictures_card : Rows.FaultPicturesCardSaid :=
  Claim7.holds_tied_plain_at .later [] [.data, .data, .data, .funcs] true (true, "87ed971a46d143ac664404183cb639de330058d80f7d2e21f7cd3d2d1ce3f35c") false
    faultPictures_holds (fun _ h => by cases h) wft8 (fun _ h => by cases h) faultPictures_row_tie rfl ⟨rfl, rfl⟩ mainIs8 rfl
    (fun f fn hf hfn => by
      obtain rfl : f = 8 := Option.some.inj (fname8.symm.trans hf) |>.symm
      obtain rfl : fn = Tryz.f8 := (Option.some.inj (Tryz.func8.symm.trans hfn)).symm
      exact ⟨looks8, fun j t ht => by
        have ht : Tryz.f8.params[j]? = some t := ht
        rw [Tryz.params8] at ht
        have hm : t ∈ [82, 3] := by simpa using Array.mem_of_getElem? ht
        exact (show Tryz.prog.wantsStandIn t = false by simpa using List.all_eq_true.1 stand8 t hm)⟩)
    goesBy8
end Go.Proofs.YtifljcjddphpjaaGreatDoor
