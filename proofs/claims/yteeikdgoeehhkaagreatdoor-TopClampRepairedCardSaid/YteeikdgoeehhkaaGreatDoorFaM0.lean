import Derived.Test.YteeikdgoeehhkaaGreatDoorFaTab
import Derived.Test.YteeikdgoeehhkaaGreatDoorZR
set_option linter.all false
set_option maxHeartbeats 8000000
set_option maxRecDepth 100000
namespace Go.Den.FaT
open Go Go.Proofs Go.Den
noncomputable def mm0:zbt:= []
theorem fj:MemoOk T mm0:= .nil T
theorem uo:(zu T).call 5 [] [] 0 []=some (.bool true,[],0,[]):=q6 fj 100000 (by kernel_rfl)
end Go.Den.FaT
