import Derived.Test.YtjiidembdmfikaaGreatDoorFaPrim
import Derived.Test.YtjiidembdmfikaaGreatDoorZR
import Derived.Test.YtjiidembdmfikaaGreatDoorTie
import Derived.Test.YtjiidembdmfikaaGreatDoorCards
import Derived.LaidMore
import Derived.OpenShut
import Derived.Stop.Joined
import Derived.SevenTiedAt
set_option linter.all false
set_option maxHeartbeats 8000000
set_option maxRecDepth 100000
namespace Go.Proofs.YtjiidembdmfikaaGreatDoor
open Go Go.Proofs Go.Den Go.Den.FaT Go.ChangeShapes Go.WideShapes Go.ChangeAt Go.RowKit
def zb3:List (String×DataW Unit):= [("combiner/curve.words",Rows.laid_combiner_curve_words)]
theorem own:ownKnob Tryz.prog.godebug=none:=by kernel_rfl
theorem laidOut:laidOutB Tryz.prog=true:=by kernel_rfl
theorem gCrit:Tryz.prog.globalNamed "combiner/curve.words" =some 0:=by kernel_rfl
theorem tCrit:(Tryz.prog.globals[0]?).map (·.type)=some 167:=by kernel_rfl
theorem zer{W:World}{m:Nat}{c c':Value}{x:DataW (List UInt8)×List MemPlace}{name r:List UInt8}{b:UInt8}{f0:FuncId}{s u:TypeId}{q1 q2:Field}
  (hs:Tryz.prog.underlying s=some (.struct #[q1,q2]))(h1:q1.type=9)(h2:q1.offset=0)(h3:q2.type=u)(h4:q2.offset=1){sg:Nat}(hu:(Tryz.prog.underlying u).map (fun d=>match d with| .func .. =>true|_=>false)=some true)(hcu:Tryz.prog.cellsOf u=1)
  (h:DataW.trod (funcToken Tryz.prog) Tryz.prog W 0 (fun _=>true) true m s [c,c']=some x)
  (hx:x.1= .agg [.lit (.string name),.held (b::r)])(hone:((List.range Tryz.prog.funcs.size).filter fun f=>(Tryz.prog.funcs[f]?).any (·.name.toUTF8.data.toList==b::r))= [f0]):
  ∃s:ByteArray,c= .string s∧s.data.toList=name∧c'= .func (.func f0) #[] #[]:=by
 obtain⟨y0,y1,n,rfl,_,g0,g1⟩:=trod_struct2 hs h;simp only[DataW.agg.injEq,List.cons.injEq,and_true]at hx;have c9:Tryz.prog.cellsOf 9=1:=by kernel_rfl
 rw[h1,h2]at g0;rw[h3,h4]at g1;simp only[c9,hcu,List.drop_zero,List.take_succ_cons,List.take_zero,List.drop_succ_cons]at g0 g1;obtain⟨s,e1,e2,_⟩:=DataW.trod_string Tryz.underlying9 g0;obtain⟨z1,z2⟩:=y1;obtain⟨hx0,hx1⟩:=hx;simp only at hx1;subst hx1
 have e3:c'= .func (.func f0) #[] #[]:=by
  cases hd:Tryz.prog.underlying u with
  |none=>rw[hd]at hu;cases hu
  |some d=>
   rw[hd]at hu;cases d with
   |func a b v=>exact Go.func_of_trod hd hone g1
   |_=>simp at hu
 refine⟨s,by simpa using e1,?_,e3⟩;rw[e2]at hx0;simpa using hx0
theorem xhm:Tryz.prog.cellsOf 167=10:=by kernel_rfl
theorem xhn:Tryz.prog.cellsOf 166=2:=by kernel_rfl
theorem c74:Tryz.prog.cellsOf 74=1:=by kernel_rfl
theorem u74:(Tryz.prog.underlying 74).map (fun d=>match d with| .func .. =>true|_=>false)=some true:=by kernel_rfl
theorem yus{W:World}(h:laidMetH Tryz.prog zb3 W):∀g cs,T.glob g=some cs→∃c,(G0 W).M g=some (.cells c)∧RelL (G0 W) cs c∧pureL cs=true∧∀u∈cs,isCell u=true:=by
 intro g cs hg;have hg:lookup g zm8=some cs:=hg;simp only[zm8,lookup_cons]at hg;have fnr:∀f,Rel (G0 W) (.fn f []) (.func (.func f) #[] #[]):=fun f=> .fn f [] #[] rfl (fun i v x hv=>by simp at hv);split at hg
 ·rename_i e
  subst e;have hg:=Option.some.inj hg;subst hg;obtain⟨g,t,cs,fuel,p,hg,ht,hv,hd⟩:=h.funcs (show("combiner/curve.words",_)∈zb3 from by unfold zb3 Rows.laid_combiner_curve_words;exact List.mem_cons_self);obtain rfl:=Option.some.inj (gCrit.symm.trans hg);obtain rfl:=Option.some.inj (tCrit.symm.trans ht);obtain⟨xs,m,rfl,hx,hlen,hxs,hel⟩:=DataW.trod_array Tryz.underlying167 hd;rw[xhm]at hlen;rw[xhn]at hel;refine⟨cs,xi3 gCrit hv,?_,by kernel_rfl,fun u hu=> ?_⟩
  ·rw[q9]
   have hx1:=congrArg Prod.fst hx;generalize cs.toList=l at hlen hel
   match l,hlen,xs,hxs with
   | [a0,b0,a1,b1,a2,b2,a3,b3,a4,b4],_,[x0,x1,x2,x3,x4],_=>
    simp only[DataW.funcsOut,DataW.funcsOutAll,List.map_cons,List.map_nil,DataW.agg.injEq,List.cons.injEq,and_true,beq_self_eq_true,if_true]at hx1;obtain⟨q0,q1,q2,q3,q4⟩:=hx1;obtain⟨s0,rfl,e0,rfl⟩:=zer (sg:=0) Tryz.underlying166 rfl rfl rfl rfl u74 c74 (hel 0 (by decide)) q0.symm (f0:=275) (by kernel_rfl);obtain⟨s1,rfl,e1,rfl⟩:=zer (sg:=0) Tryz.underlying166 rfl rfl rfl rfl u74 c74 (hel 1 (by decide)) q1.symm (f0:=277) (by kernel_rfl);obtain⟨s2,rfl,e2,rfl⟩:=zer (sg:=0) Tryz.underlying166 rfl rfl rfl rfl u74 c74 (hel 2 (by decide)) q2.symm (f0:=278) (by kernel_rfl);obtain⟨s3,rfl,e3,rfl⟩:=zer (sg:=0) Tryz.underlying166 rfl rfl rfl rfl u74 c74 (hel 3 (by decide)) q3.symm (f0:=279) (by kernel_rfl);obtain⟨s4,rfl,e4,rfl⟩:=zer (sg:=0) Tryz.underlying166 rfl rfl rfl rfl u74 c74 (hel 4 (by decide)) q4.symm (f0:=280) (by kernel_rfl);refine⟨rfl,fun i v x hi hx=> ?_⟩;have hi6:i<10:=(List.getElem?_eq_some_iff.1 hx).1
    match i,hi6 with
    |0,_=>cases hi;cases hx;exact .str _ _ e0
    |1,_=>cases hi;cases hx;exact fnr _
    |2,_=>cases hi;cases hx;exact .str _ _ e1
    |3,_=>cases hi;cases hx;exact fnr _
    |4,_=>cases hi;cases hx;exact .str _ _ e2
    |5,_=>cases hi;cases hx;exact fnr _
    |6,_=>cases hi;cases hx;exact .str _ _ e3
    |7,_=>cases hi;cases hx;exact fnr _
    |8,_=>cases hi;cases hx;exact .str _ _ e4
    |9,_=>cases hi;cases hx;exact fnr _
  ·have:(words.all fun u=>isCell u)=true:=by kernel_rfl
   exact List.all_eq_true.1 this u hu
 ·cases hg
end Go.Proofs.YtjiidembdmfikaaGreatDoor
