import Derived.Test.YteeikdgoeehhkaaGreatDoorTie
import Derived.Test.YteeikdgoeehhkaaGreatDoorCards
import Derived.SevenTiedAt
set_option linter.all false
set_option maxHeartbeats 8000000
set_option maxRecDepth 100000
namespace Go.Proofs.YteeikdgoeehhkaaGreatDoor
open Go Go.Proofs
theorem yog:([72].all fun u=> !Tryz.prog.wantsStandIn u)=true:=by kernel_rfl
theorem ym0:Rows.topClampRepairedRow.wfByText (OpenSpec.ofChange Rows.topClampRepairedSpec)=true:=by kernel_rfl
theorem fname4:Tryz.prog.funcNamed "combiner/combinertop.TopClampRepaired" =some 4:=by kernel_rfl
theorem noinit4:Tryz.prog.inits.idxOf? 4=none:=by kernel_rfl
end Go.Proofs.YteeikdgoeehhkaaGreatDoor
