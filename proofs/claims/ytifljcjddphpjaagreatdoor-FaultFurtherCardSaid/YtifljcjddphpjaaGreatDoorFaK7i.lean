import Derived.Test.YtifljcjddphpjaaGreatDoorTie
import Derived.Test.YtifljcjddphpjaaGreatDoorCards
import Derived.SevenTiedAt
set_option linter.all false
set_option maxHeartbeats 8000000
set_option maxRecDepth 100000
namespace Go.Proofs.YtifljcjddphpjaaGreatDoor
open Go Go.Proofs
theorem stand7 : ([25, 28, 72].all fun u => !Tryz.prog.wantsStandIn u) = true := by kernel_rfl
theorem wft7 : Rows.faultFurtherRow.wfByText (OpenSpec.ofChange Rows.faultFurtherSpec) = true := by kernel_rfl
theorem fname7 : Tryz.prog.funcNamed "combiner/combinerlaw07.FaultFurther" = some 7 := by kernel_rfl
theorem noinit7 : Tryz.prog.inits.idxOf? 7 = none := by kernel_rfl
end Go.Proofs.YtifljcjddphpjaaGreatDoor
