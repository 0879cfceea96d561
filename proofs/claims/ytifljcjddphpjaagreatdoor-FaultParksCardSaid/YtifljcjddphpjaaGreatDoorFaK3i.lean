import Derived.Test.YtifljcjddphpjaaGreatDoorTie
import Derived.Test.YtifljcjddphpjaaGreatDoorCards
import Derived.SevenTiedAt
set_option linter.all false
namespace Go.Proofs.YtifljcjddphpjaaGreatDoor
open Go Go.Proofs
set_option maxRecDepth 100000
theorem stand3 : ([25].all fun u => !Tryz.prog.wantsStandIn u) = true := by kernel_rfl
theorem wft3 : Rows.faultParksRow.wfByText (OpenSpec.ofChange Rows.faultParksSpec) = true := by kernel_rfl
theorem fname3 : Tryz.prog.funcNamed "combiner/combinerlaw07.FaultParks" = some 3 := by kernel_rfl
theorem noinit3 : Tryz.prog.inits.idxOf? 3 = none := by kernel_rfl
end Go.Proofs.YtifljcjddphpjaaGreatDoor
