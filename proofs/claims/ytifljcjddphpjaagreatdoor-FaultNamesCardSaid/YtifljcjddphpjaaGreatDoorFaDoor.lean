import Derived.Test.YtifljcjddphpjaaGreatDoorFaX0
import Derived.Lay
set_option linter.all false
set_option maxHeartbeats 8000000
set_option maxRecDepth 100000
namespace Go.Proofs.YtifljcjddphpjaaGreatDoor
open Go Go.Proofs Go.Den Go.Den.FaT Go.ChangeShapes Go.WideShapes Go.ChangeAt Go.RowKit
noncomputable def zi9(os:Os):World:=(World.doorLaid Tryz.prog 4000 os).layVars Tryz.prog [("unicode/utf8.first",Rows.laid_unicode_utf8_first)]
theorem xib(os:Os)(args:Array Value):laidMetH Tryz.prog laidL ((zi9 os).forCall (fun _ _=>0) ⟨#[],args,[]⟩).memory:=
 laidMetH_of_parts3 (fuel:=8) (laidMet_of_run' 8 (by kernel_rfl) (by kernel_rfl)) (by kernel_rfl) (by kernel_rfl)
theorem xh9(os:Os)(args:Array Value):((zi9 os).forCall (fun _ _=>0) ⟨#[],args,[]⟩).Shaped Tryz.prog:=World.shaped_of_RefB (by kernel_rfl) (by kernel_rfl)
theorem xia(os:Os):(zi9 os).os=os:=World.layVars_os _ _ _
end Go.Proofs.YtifljcjddphpjaaGreatDoor
