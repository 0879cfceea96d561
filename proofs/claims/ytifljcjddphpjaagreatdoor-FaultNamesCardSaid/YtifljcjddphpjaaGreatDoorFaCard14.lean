import Derived.Test.YtifljcjddphpjaaGreatDoorFaX4
import Derived.Test.YtifljcjddphpjaaGreatDoorFaClosed14
import Derived.Test.YtifljcjddphpjaaGreatDoorFaK14f
import Derived.Test.YtifljcjddphpjaaGreatDoorFaK14g
import Derived.Test.YtifljcjddphpjaaGreatDoorFaK14h
import Derived.Test.YtifljcjddphpjaaGreatDoorFaK14i
set_option linter.all false
set_option maxHeartbeats 8000000
set_option maxRecDepth 100000
namespace Go.Proofs.YtifljcjddphpjaaGreatDoor
open Go Go.Proofs Go.Den Go.Den.FaT Go.ChangeShapes Go.WideShapes Go.ChangeAt Go.RowKit
theorem xc4:Tryz.f14.isInstance Tryz.prog Rows.faultNamesRow.origin Rows.faultNamesRow.targs:=of_decide_eq_true (by kernel_rfl)
theorem ysx:Tryz.f14.isWrapper Tryz.prog Rows.faultNamesRow.wrapper Rows.faultNamesRow.mainSum:=by
 unfold Func.isWrapper
 first|(rw[if_pos (by decide+kernel)];kernel_rfl)|(rw[if_neg (by decide+kernel)];exact⟨rfl,rfl⟩)
theorem xet:Rows.FaultNamesSaid:=
 OpenClaim.holds_of_wide 14 Tryz.f14 rfl rfl rfl rfl rfl rfl rfl ⟨rfl,rfl,rfl,rfl,rfl⟩ rfl rfl rfl rfl rfl fname14 Tryz.func14 xi7 xc4 ysx
  (fun os started H enc _=>xb7 os started H enc)
theorem faultNames_card:Rows.FaultNamesCardSaid:=
 Claim7.holds_tied_plain_at .later [] [.data,.data,.data,.data,.funcs,.pinned] true (true, "87ed971a46d143ac664404183cb639de330058d80f7d2e21f7cd3d2d1ce3f35c") false
  xet (fun _ h=>by cases h) ys2 (fun _ h=>by cases h) faultNames_row_tie rfl ⟨rfl,rfl⟩ yzp rfl
  (fun f fn hf hfn=>by
   obtain rfl:f=14:=Option.some.inj (fname14.symm.trans hf)|>.symm;obtain rfl:fn=Tryz.f14:=(Option.some.inj (Tryz.func14.symm.trans hfn)).symm
   exact⟨xbz,fun j t ht=>by
    have ht:Tryz.f14.params[j]? =some t:=ht;rw[Tryz.params14]at ht;have hm:t∈ [25,166]:=by simpa using Array.mem_of_getElem? ht
    exact(show Tryz.prog.wantsStandIn t=false by simpa using List.all_eq_true.1 yt4 t hm)⟩)
  xdm
end Go.Proofs.YtifljcjddphpjaaGreatDoor
