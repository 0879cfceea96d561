import Derived.Test.YtifljcjddphpjaaGreatDoorTie
import Derived.Test.YtifljcjddphpjaaGreatDoorCards
import Derived.SevenTiedAt
set_option linter.all false
namespace Go.Proofs.YtifljcjddphpjaaGreatDoor
open Go Go.Proofs
set_option maxRecDepth 100000
theorem stand9 : ([102, 100, 103].all fun u => !Tryz.prog.wantsStandIn u) = true := by kernel_rfl
theorem wft9 : Rows.faultFramesRow.wfByText (OpenSpec.ofChange Rows.faultFramesSpec) = true := by kernel_rfl
theorem fname9 : Tryz.prog.funcNamed "combiner/combinerlaw07.FaultFrames" = some 9 := by kernel_rfl
theorem noinit9 : Tryz.prog.inits.idxOf? 9 = none := by kernel_rfl
end Go.Proofs.YtifljcjddphpjaaGreatDoor
