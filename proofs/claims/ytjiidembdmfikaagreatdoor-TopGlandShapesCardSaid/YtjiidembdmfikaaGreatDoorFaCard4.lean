import Derived.Test.YtjiidembdmfikaaGreatDoorFaX5
import Derived.Test.YtjiidembdmfikaaGreatDoorFaClosed4
import Derived.Test.YtjiidembdmfikaaGreatDoorFaK4f
import Derived.Test.YtjiidembdmfikaaGreatDoorFaK4g
import Derived.Test.YtjiidembdmfikaaGreatDoorFaK4h
import Derived.Test.YtjiidembdmfikaaGreatDoorFaK4i
set_option linter.all false
set_option maxHeartbeats 8000000
set_option maxRecDepth 100000
namespace Go.Proofs.YtjiidembdmfikaaGreatDoor
open Go Go.Proofs Go.Den Go.Den.FaT Go.ChangeShapes Go.WideShapes Go.ChangeAt Go.RowKit
theorem yyq:Tryz.f4.isInstance Tryz.prog Rows.topGlandShapesRow.origin Rows.topGlandShapesRow.targs:=of_decide_eq_true (by kernel_rfl)
theorem yqa:Tryz.f4.isWrapper Tryz.prog Rows.topGlandShapesRow.wrapper Rows.topGlandShapesRow.mainSum:=by
 unfold Func.isWrapper
 first|(rw[if_pos (by decide+kernel)];kernel_rfl)|(rw[if_neg (by decide+kernel)];exact⟨rfl,rfl⟩)
theorem yql:Rows.TopGlandShapesSaid:=
 OpenClaim.holds_of_wide 4 Tryz.f4 rfl rfl rfl rfl rfl rfl rfl ⟨rfl,rfl,rfl,rfl,rfl⟩ rfl rfl rfl rfl rfl fname4 Tryz.func4 xfp yyq yqa
  (fun os started H enc _=>yxg os started H enc)
theorem topGlandShapes_card:Rows.TopGlandShapesCardSaid:=
 Claim7.holds_tied_plain_at .later [] [.funcsDeep] true (true, "4e4bd954051256aa583db218789ebb6e167597a9280b80de5f88744b53171b8c") false
  yql (fun _ h=>by cases h) yqb (fun _ h=>by cases h) topGlandShapes_row_tie rfl ⟨rfl,rfl⟩ yvp rfl
  (fun f fn hf hfn=>by
   obtain rfl:f=4:=Option.some.inj (fname4.symm.trans hf)|>.symm;obtain rfl:fn=Tryz.f4:=(Option.some.inj (Tryz.func4.symm.trans hfn)).symm
   exact⟨yw8,fun j t ht=>by
    have ht:Tryz.f4.params[j]? =some t:=ht;rw[Tryz.params4]at ht;have hm:t∈ [28]:=by simpa using Array.mem_of_getElem? ht
    exact(show Tryz.prog.wantsStandIn t=false by simpa using List.all_eq_true.1 yq5 t hm)⟩)
  yzj
end Go.Proofs.YtjiidembdmfikaaGreatDoor
