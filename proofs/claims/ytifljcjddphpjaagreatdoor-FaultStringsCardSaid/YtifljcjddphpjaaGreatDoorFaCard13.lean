import Derived.Test.YtifljcjddphpjaaGreatDoorFaX2
import Derived.Test.YtifljcjddphpjaaGreatDoorFaClosed13
import Derived.Test.YtifljcjddphpjaaGreatDoorFaK13f
import Derived.Test.YtifljcjddphpjaaGreatDoorFaK13g
import Derived.Test.YtifljcjddphpjaaGreatDoorFaK13h
import Derived.Test.YtifljcjddphpjaaGreatDoorFaK13i
set_option linter.all false
set_option maxHeartbeats 8000000
set_option maxRecDepth 100000
namespace Go.Proofs.YtifljcjddphpjaaGreatDoor
open Go Go.Proofs Go.Den Go.Den.FaT Go.ChangeShapes Go.WideShapes Go.ChangeAt Go.RowKit
theorem inst13 : Tryz.f13.isInstance Tryz.prog Rows.faultStringsRow.origin Rows.faultStringsRow.targs := of_decide_eq_true (by kernel_rfl)
theorem wrap13 : Tryz.f13.isWrapper Tryz.prog Rows.faultStringsRow.wrapper Rows.faultStringsRow.mainSum := by
  unfold Func.isWrapper
  first | (rw [if_pos (by decide +kernel)]; kernel_rfl) | (rw [if_neg (by decide +kernel)]; exact ⟨rfl, rfl⟩)
theorem faultStrings_holds : Rows.FaultStringsSaid :=
  OpenClaim.holds_of_wide 13 Tryz.f13 rfl rfl rfl rfl rfl rfl rfl ⟨rfl, rfl, rfl, rfl, rfl⟩ rfl rfl rfl rfl rfl fname13 Tryz.func13 closed13 inst13 wrap13
    (fun os started H enc _ => lifted13 os started H enc)
theorem faultStrings_card : Rows.FaultStringsCardSaid :=
  Claim7.holds_tied_plain_at .later [] [.data, .data, .data, .data, .funcs, .pinned] true (true, "87ed971a46d143ac664404183cb639de330058d80f7d2e21f7cd3d2d1ce3f35c") false
    faultStrings_holds (fun _ h => by cases h) wft13 (fun _ h => by cases h) faultStrings_row_tie rfl ⟨rfl, rfl⟩ mainIs13 rfl
    (fun f fn hf hfn => by
      obtain rfl : f = 13 := Option.some.inj (fname13.symm.trans hf) |>.symm
      obtain rfl : fn = Tryz.f13 := (Option.some.inj (Tryz.func13.symm.trans hfn)).symm
      exact ⟨looks13, fun j t ht => by
        have ht : Tryz.f13.params[j]? = some t := ht
        rw [Tryz.params13] at ht
        have hm : t ∈ [25, 9] := by simpa using Array.mem_of_getElem? ht
        exact (show Tryz.prog.wantsStandIn t = false by simpa using List.all_eq_true.1 stand13 t hm)⟩)
    goesBy13
end Go.Proofs.YtifljcjddphpjaaGreatDoor
