import Derived.Test.YtifljcjddphpjaaGreatDoorTie
import Derived.Test.YtifljcjddphpjaaGreatDoorCards
import Derived.SevenTiedAt
set_option linter.all false
namespace Go.Proofs.YtifljcjddphpjaaGreatDoor
open Go Go.Proofs
set_option maxRecDepth 100000
theorem stand10 : ([92, 102, 116].all fun u => !Tryz.prog.wantsStandIn u) = true := by kernel_rfl
theorem wft10 : Rows.faultModulesRow.wfByText (OpenSpec.ofChange Rows.faultModulesSpec) = true := by kernel_rfl
theorem fname10 : Tryz.prog.funcNamed "combiner/combinerlaw07.FaultModules" = some 10 := by kernel_rfl
theorem noinit10 : Tryz.prog.inits.idxOf? 10 = none := by kernel_rfl
end Go.Proofs.YtifljcjddphpjaaGreatDoor
