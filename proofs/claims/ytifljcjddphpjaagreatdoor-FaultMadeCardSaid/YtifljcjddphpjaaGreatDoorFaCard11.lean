import Derived.Test.YtifljcjddphpjaaGreatDoorFaX3
import Derived.Test.YtifljcjddphpjaaGreatDoorFaClosed11
import Derived.Test.YtifljcjddphpjaaGreatDoorFaK11f
import Derived.Test.YtifljcjddphpjaaGreatDoorFaK11g
import Derived.Test.YtifljcjddphpjaaGreatDoorFaK11h
import Derived.Test.YtifljcjddphpjaaGreatDoorFaK11i
set_option linter.all false
set_option maxHeartbeats 8000000
set_option maxRecDepth 100000
namespace Go.Proofs.YtifljcjddphpjaaGreatDoor
open Go Go.Proofs Go.Den Go.Den.FaT Go.ChangeShapes Go.WideShapes Go.ChangeAt Go.RowKit
theorem inst11 : Tryz.f11.isInstance Tryz.prog Rows.faultMadeRow.origin Rows.faultMadeRow.targs := of_decide_eq_true (by kernel_rfl)
theorem wrap11 : Tryz.f11.isWrapper Tryz.prog Rows.faultMadeRow.wrapper Rows.faultMadeRow.mainSum := by
  unfold Func.isWrapper
  first | (rw [if_pos (by decide +kernel)]; kernel_rfl) | (rw [if_neg (by decide +kernel)]; exact ⟨rfl, rfl⟩)
theorem faultMade_holds : Rows.FaultMadeSaid :=
  OpenClaim.holds_of_wide 11 Tryz.f11 rfl rfl rfl rfl rfl rfl rfl ⟨rfl, rfl, rfl, rfl, rfl⟩ rfl rfl rfl rfl rfl fname11 Tryz.func11 closed11 inst11 wrap11
    (fun os started H enc _ => lifted11 os started H enc)
theorem faultMade_card : Rows.FaultMadeCardSaid :=
  Claim7.holds_tied_plain_at .later [] [.data, .data, .data, .funcs] true (true, "87ed971a46d143ac664404183cb639de330058d80f7d2e21f7cd3d2d1ce3f35c") false
    faultMade_holds (fun _ h => by cases h) wft11 (fun _ h => by cases h) faultMade_row_tie rfl ⟨rfl, rfl⟩ mainIs11 rfl
    (fun f fn hf hfn => by
      obtain rfl : f = 11 := Option.some.inj (fname11.symm.trans hf) |>.symm
      obtain rfl : fn = Tryz.f11 := (Option.some.inj (Tryz.func11.symm.trans hfn)).symm
      exact ⟨looks11, fun j t ht => by
        have ht : Tryz.f11.params[j]? = some t := ht
        rw [Tryz.params11] at ht
        have hm : t ∈ [134, 135, 5] := by simpa using Array.mem_of_getElem? ht
        exact (show Tryz.prog.wantsStandIn t = false by simpa using List.all_eq_true.1 stand11 t hm)⟩)
    goesBy11
end Go.Proofs.YtifljcjddphpjaaGreatDoor
