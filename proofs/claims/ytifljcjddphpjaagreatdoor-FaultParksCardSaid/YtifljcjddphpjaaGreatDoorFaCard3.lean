import Derived.Test.YtifljcjddphpjaaGreatDoorFaX2
import Derived.Test.YtifljcjddphpjaaGreatDoorFaClosed3
import Derived.Test.YtifljcjddphpjaaGreatDoorFaK3f
import Derived.Test.YtifljcjddphpjaaGreatDoorFaK3g
import Derived.Test.YtifljcjddphpjaaGreatDoorFaK3h
import Derived.Test.YtifljcjddphpjaaGreatDoorFaK3i
set_option linter.all false
namespace Go.Proofs.YtifljcjddphpjaaGreatDoor
open Go Go.Proofs Go.Den Go.Den.FaT Go.ChangeShapes Go.WideShapes Go.ChangeAt Go.RowKit
set_option maxRecDepth 100000
theorem inst3 : Tryz.f3.isInstance Tryz.prog Rows.faultParksRow.origin Rows.faultParksRow.targs := of_decide_eq_true (by kernel_rfl)
theorem wrap3 : Tryz.f3.isWrapper Tryz.prog Rows.faultParksRow.wrapper Rows.faultParksRow.mainSum := by
  unfold Func.isWrapper
  first | (rw [if_pos (by decide +kernel)]; kernel_rfl) | (rw [if_neg (by decide +kernel)]; exact ⟨rfl, rfl⟩)
theorem faultParks_holds : Rows.FaultParksSaid :=
  OpenClaim.holds_of_wide 3 Tryz.f3 rfl rfl rfl rfl rfl rfl rfl ⟨rfl, rfl, rfl, rfl, rfl⟩ rfl rfl rfl rfl rfl fname3 Tryz.func3 closed3 inst3 wrap3
    (fun os started H enc _ => lifted3 os started H enc)
theorem faultParks_card : Rows.FaultParksCardSaid :=
  Claim7.holds_tied_plain_at .later [] [.data, .data, .data, .funcs] true (true, "87ed971a46d143ac664404183cb639de330058d80f7d2e21f7cd3d2d1ce3f35c") false
    faultParks_holds (fun _ h => by cases h) wft3 (fun _ h => by cases h) faultParks_row_tie rfl ⟨rfl, rfl⟩ mainIs3 rfl
    (fun f fn hf hfn => by
      obtain rfl : f = 3 := Option.some.inj (fname3.symm.trans hf) |>.symm
      obtain rfl : fn = Tryz.f3 := (Option.some.inj (Tryz.func3.symm.trans hfn)).symm
      exact ⟨looks3, fun j t ht => by
        have ht : Tryz.f3.params[j]? = some t := ht
        rw [Tryz.params3] at ht
        have hm : t ∈ [25] := by simpa using Array.mem_of_getElem? ht
        exact (show Tryz.prog.wantsStandIn t = false by simpa using List.all_eq_true.1 stand3 t hm)⟩)
    goesBy3
end Go.Proofs.YtifljcjddphpjaaGreatDoor
