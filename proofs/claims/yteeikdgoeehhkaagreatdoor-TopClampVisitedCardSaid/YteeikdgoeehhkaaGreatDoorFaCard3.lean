import Derived.Test.YteeikdgoeehhkaaGreatDoorFaX2
import Derived.Test.YteeikdgoeehhkaaGreatDoorFaClosed3
import Derived.Test.YteeikdgoeehhkaaGreatDoorFaK3f
import Derived.Test.YteeikdgoeehhkaaGreatDoorFaK3g
import Derived.Test.YteeikdgoeehhkaaGreatDoorFaK3h
import Derived.Test.YteeikdgoeehhkaaGreatDoorFaK3i
set_option linter.all false
set_option maxHeartbeats 8000000
set_option maxRecDepth 100000
namespace Go.Proofs.YteeikdgoeehhkaaGreatDoor
open Go Go.Proofs Go.Den Go.Den.FaT Go.ChangeShapes Go.WideShapes Go.ChangeAt Go.RowKit
theorem inst3 : Tryz.f3.isInstance Tryz.prog Rows.topClampVisitedRow.origin Rows.topClampVisitedRow.targs := of_decide_eq_true (by kernel_rfl)
theorem wrap3 : Tryz.f3.isWrapper Tryz.prog Rows.topClampVisitedRow.wrapper Rows.topClampVisitedRow.mainSum := by
  unfold Func.isWrapper
  first | (rw [if_pos (by decide +kernel)]; kernel_rfl) | (rw [if_neg (by decide +kernel)]; exact ⟨rfl, rfl⟩)
theorem topClampVisited_holds : Rows.TopClampVisitedSaid :=
  OpenClaim.holds_of_wide 3 Tryz.f3 rfl rfl rfl rfl rfl rfl rfl ⟨rfl, rfl, rfl, rfl, rfl⟩ rfl rfl rfl rfl rfl fname3 Tryz.func3 closed3 inst3 wrap3
    (fun os started H enc _ => lifted3 os started H enc)
theorem topClampVisited_card : Rows.TopClampVisitedCardSaid :=
  Claim7.holds_tied_plain_at .later [] [.funcs, .funcs] true (true, "30b0d29d8274fd8535d1da9868a149272b8cf585a568a34648bbfc9b2628fe38") false
    topClampVisited_holds (fun _ h => by cases h) wft3 (fun _ h => by cases h) topClampVisited_row_tie rfl ⟨rfl, rfl⟩ mainIs3 rfl
    (fun f fn hf hfn => by
      obtain rfl : f = 3 := Option.some.inj (fname3.symm.trans hf) |>.symm
      obtain rfl : fn = Tryz.f3 := (Option.some.inj (Tryz.func3.symm.trans hfn)).symm
      exact ⟨looks3, fun j t ht => by
        have ht : Tryz.f3.params[j]? = some t := ht
        rw [Tryz.params3] at ht
        have hm : t ∈ [28] := by simpa using Array.mem_of_getElem? ht
        exact (show Tryz.prog.wantsStandIn t = false by simpa using List.all_eq_true.1 stand3 t hm)⟩)
    goesBy3
end Go.Proofs.YteeikdgoeehhkaaGreatDoor
