import Derived.Test.YteeikdgoeehhkaaGreatDoorFaPrim
import Derived.Test.YteeikdgoeehhkaaGreatDoorZR
import Derived.Test.YteeikdgoeehhkaaGreatDoorTie
import Derived.Test.YteeikdgoeehhkaaGreatDoorCards
import Derived.LaidMore
import Derived.OpenShut
import Derived.Stop.Joined
import Derived.SevenTiedAt
set_option linter.all false
set_option maxHeartbeats 8000000
set_option maxRecDepth 100000
namespace Go.Proofs.YteeikdgoeehhkaaGreatDoor
open Go Go.Proofs Go.Den Go.Den.FaT Go.ChangeShapes Go.WideShapes Go.ChangeAt Go.RowKit
def zb7:List (String×DataW Unit):= [("combiner/wash.criteria",Rows.laid_combiner_wash_criteria)]
theorem own:ownKnob Tryz.prog.godebug=none:=by kernel_rfl
theorem laidOut:laidOutB Tryz.prog=true:=by kernel_rfl
theorem gCrit:Tryz.prog.globalNamed "combiner/wash.criteria" =some 1:=by kernel_rfl
theorem tCrit:(Tryz.prog.globals[1]?).map (·.type)=some 205:=by kernel_rfl
theorem zmc{W:World}{m:Nat}{c c':Value}{x:DataW (List UInt8)×List MemPlace}{name r:List UInt8}{b:UInt8}{f0:FuncId}{s u:TypeId}{q1 q2:Field}
  (hs:Tryz.prog.underlying s=some (.struct #[q1,q2]))(h1:q1.type=9)(h2:q1.offset=0)(h3:q2.type=u)(h4:q2.offset=1){sg:Nat}(hu:(Tryz.prog.underlying u).map (fun d=>match d with| .func .. =>true|_=>false)=some true)(hcu:Tryz.prog.cellsOf u=1)
  (h:DataW.trod (funcToken Tryz.prog) Tryz.prog W 0 (fun _=>true) true m s [c,c']=some x)
  (hx:x.1= .agg [.lit (.string name),.held (b::r)])(hone:((List.range Tryz.prog.funcs.size).filter fun f=>(Tryz.prog.funcs[f]?).any (·.name.toUTF8.data.toList==b::r))= [f0]):
  ∃s:ByteArray,c= .string s∧s.data.toList=name∧c'= .func (.func f0) #[] #[]:=by
 obtain⟨y0,y1,n,rfl,_,g0,g1⟩:=trod_struct2 hs h;simp only[DataW.agg.injEq,List.cons.injEq,and_true]at hx;have c9:Tryz.prog.cellsOf 9=1:=by kernel_rfl
 rw[h1,h2]at g0;rw[h3,h4]at g1;simp only[c9,hcu,List.drop_zero,List.take_succ_cons,List.take_zero,List.drop_succ_cons]at g0 g1;obtain⟨s,e1,e2,_⟩:=DataW.trod_string Tryz.underlying9 g0;obtain⟨z1,z2⟩:=y1;obtain⟨hx0,hx1⟩:=hx;simp only at hx1;subst hx1
 have e3:c'= .func (.func f0) #[] #[]:=by
  cases hd:Tryz.prog.underlying u with
  |none=>rw[hd]at hu;cases hu
  |some d=>
   rw[hd]at hu;cases d with
   |func a b v=>exact Go.func_of_trod hd hone g1
   |_=>simp at hu
 refine⟨s,by simpa using e1,?_,e3⟩;rw[e2]at hx0;simpa using hx0
theorem c205:Tryz.prog.cellsOf 205=6:=by kernel_rfl
theorem xd4:Tryz.prog.cellsOf 204=2:=by kernel_rfl
theorem c191:Tryz.prog.cellsOf 191=1:=by kernel_rfl
theorem zkd:(Tryz.prog.underlying 191).map (fun d=>match d with| .func .. =>true|_=>false)=some true:=by kernel_rfl
theorem ys1{W:World}(h:laidMetH Tryz.prog zb7 W):∀g cs,T.glob g=some cs→∃c,(G0 W).M g=some (.cells c)∧RelL (G0 W) cs c∧pureL cs=true∧∀u∈cs,isCell u=true:=by
 intro g cs hg;have hg:lookup g znc=some cs:=hg;simp only[znc,lookup_cons]at hg;have fnr:∀f,Rel (G0 W) (.fn f []) (.func (.func f) #[] #[]):=fun f=> .fn f [] #[] rfl (fun i v x hv=>by simp at hv);split at hg
 ·rename_i e
  subst e;have hg:=Option.some.inj hg;subst hg;obtain⟨g,t,cs,fuel,p,hg,ht,hv,hd⟩:=h.funcs (show("combiner/wash.criteria",_)∈zb7 from by unfold zb7 Rows.laid_combiner_wash_criteria;exact List.mem_cons_self);obtain rfl:=Option.some.inj (gCrit.symm.trans hg);obtain rfl:=Option.some.inj (tCrit.symm.trans ht);obtain⟨xs,m,rfl,hx,hlen,hxs,hel⟩:=DataW.trod_array Tryz.underlying205 hd;rw[c205]at hlen;rw[xd4]at hel;refine⟨cs,xf1 gCrit hv,?_,by kernel_rfl,fun u hu=> ?_⟩
  ·rw[jm]
   have hx1:=congrArg Prod.fst hx;generalize cs.toList=l at hlen hel
   match l,hlen,xs,hxs with
   | [a0,b0,a1,b1,a2,b2],_,[x0,x1,x2],_=>
    simp only[DataW.funcsOut,DataW.funcsOutAll,List.map_cons,List.map_nil,DataW.agg.injEq,List.cons.injEq,and_true,beq_self_eq_true,if_true]at hx1;obtain⟨q0,q1,q2⟩:=hx1;obtain⟨s0,rfl,e0,rfl⟩:=zmc (sg:=0) Tryz.underlying204 rfl rfl rfl rfl zkd c191 (hel 0 (by decide)) q0.symm (f0:=174) (by kernel_rfl);obtain⟨s1,rfl,e1,rfl⟩:=zmc (sg:=0) Tryz.underlying204 rfl rfl rfl rfl zkd c191 (hel 1 (by decide)) q1.symm (f0:=175) (by kernel_rfl);obtain⟨s2,rfl,e2,rfl⟩:=zmc (sg:=0) Tryz.underlying204 rfl rfl rfl rfl zkd c191 (hel 2 (by decide)) q2.symm (f0:=176) (by kernel_rfl);refine⟨rfl,fun i v x hi hx=> ?_⟩;have hi6:i<6:=(List.getElem?_eq_some_iff.1 hx).1
    match i,hi6 with
    |0,_=>cases hi;cases hx;exact .str _ _ e0
    |1,_=>cases hi;cases hx;exact fnr _
    |2,_=>cases hi;cases hx;exact .str _ _ e1
    |3,_=>cases hi;cases hx;exact fnr _
    |4,_=>cases hi;cases hx;exact .str _ _ e2
    |5,_=>cases hi;cases hx;exact fnr _
  ·have:(criteria.all fun u=>isCell u)=true:=by kernel_rfl
   exact List.all_eq_true.1 this u hu
 ·cases hg
end Go.Proofs.YteeikdgoeehhkaaGreatDoor
