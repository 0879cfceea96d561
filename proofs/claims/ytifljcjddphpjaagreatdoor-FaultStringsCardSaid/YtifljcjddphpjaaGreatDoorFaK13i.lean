import Derived.Test.YtifljcjddphpjaaGreatDoorTie
import Derived.Test.YtifljcjddphpjaaGreatDoorCards
import Derived.SevenTiedAt
set_option linter.all false
set_option maxHeartbeats 8000000
set_option maxRecDepth 100000
namespace Go.Proofs.YtifljcjddphpjaaGreatDoor
open Go Go.Proofs
theorem stand13 : ([25, 9].all fun u => !Tryz.prog.wantsStandIn u) = true := by kernel_rfl
theorem wft13 : Rows.faultStringsRow.wfByText (OpenSpec.ofChange Rows.faultStringsSpec) = true := by kernel_rfl
theorem fname13 : Tryz.prog.funcNamed "combiner/combinerlaw07.FaultStrings" = some 13 := by kernel_rfl
theorem noinit13 : Tryz.prog.inits.idxOf? 13 = none := by kernel_rfl
end Go.Proofs.YtifljcjddphpjaaGreatDoor
