import Derived.Test.YtifljcjddphpjaaGreatDoorFaX4
import Derived.Test.YtifljcjddphpjaaGreatDoorFaClosed12
import Derived.Test.YtifljcjddphpjaaGreatDoorFaK12f
import Derived.Test.YtifljcjddphpjaaGreatDoorFaK12h
set_option linter.all false
set_option maxHeartbeats 8000000
set_option maxRecDepth 100000
namespace Go.Proofs.YtifljcjddphpjaaGreatDoor
open Go Go.Proofs Go.Den Go.Den.FaT Go.ChangeShapes Go.WideShapes Go.ChangeAt Go.RowKit
theorem inst12 : Tryz.f12.isInstance Tryz.prog Rows.faultSpotsRow.origin Rows.faultSpotsRow.targs := of_decide_eq_true (by kernel_rfl)
theorem wrap12 : Tryz.f12.isWrapper Tryz.prog Rows.faultSpotsRow.wrapper Rows.faultSpotsRow.mainSum := by
  unfold Func.isWrapper
  first | (rw [if_pos (by decide +kernel)]; kernel_rfl) | (rw [if_neg (by decide +kernel)]; exact ⟨rfl, rfl⟩)
theorem faultSpots_holds : Rows.FaultSpotsSaid :=
  OpenClaim.holds_of_wide 12 Tryz.f12 rfl rfl rfl rfl rfl rfl rfl ⟨rfl, rfl, rfl, rfl, rfl⟩ rfl rfl rfl rfl rfl fname12 Tryz.func12 closed12 inst12 wrap12
    (fun os started H enc _ => lifted12 os started H enc)
theorem faultSpots_card : Rows.FaultSpotsCardSaid :=
  Claim7.holds_tied_plain_at .later [] [.data, .data, .data, .funcs] true (true, "87ed971a46d143ac664404183cb639de330058d80f7d2e21f7cd3d2d1ce3f35c") false
    faultSpots_holds (fun _ h => by cases h) wft12 (fun _ h => by cases h) faultSpots_row_tie rfl ⟨rfl, rfl⟩ mainIs12 rfl
    (fun f fn hf hfn => by
      obtain rfl : f = 12 := Option.some.inj (fname12.symm.trans hf) |>.symm
      obtain rfl : fn = Tryz.f12 := (Option.some.inj (Tryz.func12.symm.trans hfn)).symm
      exact ⟨looks12, fun j t ht => by
        have ht : Tryz.f12.params[j]? = some t := ht
        rw [Tryz.params12] at ht
        have hm : t ∈ [82, 148, 48] := by simpa using Array.mem_of_getElem? ht
        exact (show Tryz.prog.wantsStandIn t = false by simpa using List.all_eq_true.1 stand12 t hm)⟩)
    goesBy12
end Go.Proofs.YtifljcjddphpjaaGreatDoor
