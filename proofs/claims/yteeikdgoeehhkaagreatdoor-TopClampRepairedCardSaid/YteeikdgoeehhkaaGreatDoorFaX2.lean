import Derived.Test.YteeikdgoeehhkaaGreatDoorFaX1
import Derived.Test.YteeikdgoeehhkaaGreatDoorZR
import Derived.Test.YteeikdgoeehhkaaGreatDoorFaS0
import Derived.Test.YteeikdgoeehhkaaGreatDoorZP
set_option linter.all false
set_option maxHeartbeats 8000000
set_option maxRecDepth 100000
noncomputable section
namespace Go.Den.FaT
open Go Go.Proofs Go.Den
theorem ms5:(zu T).call 45 [.int .i64 5] [] 0 []=some (.fn 118 [.pp 1 [.sl true 1 ((setsN 5).map (gy (seZ 5)))] 0 0],[],0,[]):=zdl yr 100000 (by kernel_rfl)
def zbd(z:Nat)(l:List Nat):List V:=l.map fun b=>gy z ((List.range 6).filterMap fun i=>bif b.testBit i then some (Int.ofNat i)else none)
def qf0:FactG:=⟨115,[.ref 0,.int .i64 12,.int .i64 34,.int .i64 7,.fn 92 []],39,zbd 1 [0,1,2,4,8,16,32,3,5,9,17,33,34,13,14,49,11,10,18,19,20,21,22,48,24,25,41,40,12,37,36,35,7,6,38,31,30,29,28,39,27,26,42,43,44,45,46,47,23,15,50,51,52,53,54,55,56,57,58,59,60,61,62,63],.tup [],zbd 1 [0,1,2,4,8,16,32,3,5,9,17,33,6,10,18,34,12,20,36,24,40,48,7,11,19,35,13,21,37,25,41,49,14,22,38,31,30,29,28,39,27,26,42,43,44,45,46,47,23,15,50,51,52,53,54,55,56,57,58,59,60,61,62,63]⟩
theorem qo0:qf0.ok T:=by unfold FactG.ok;exact zev yr (zff T) 100000 (by kernel_rfl)
def qf1:FactG:=⟨115,[.ref 0,.int .i64 35,.int .i64 41,.int .i64 7,.fn 92 []],39,zbd 1 [0,1,2,4,8,16,32,3,5,9,17,33,6,10,18,34,12,20,36,24,40,48,7,11,19,35,13,21,37,25,41,49,14,22,38,26,52,50,28,44,42,56,27,43,39,45,46,47,23,15,29,51,30,53,54,55,31,57,58,59,60,61,62,63],.tup [],zbd 1 [0,1,2,4,8,16,32,3,5,9,17,33,6,10,18,34,12,20,36,24,40,48,7,11,19,35,13,21,37,25,41,49,14,22,38,26,42,50,28,44,52,56,27,43,39,45,46,47,23,15,29,51,30,53,54,55,31,57,58,59,60,61,62,63]⟩
theorem qo1:qf1.ok T:=by unfold FactG.ok;exact zev yr (zci qo0 (zff T)) 100000 (by kernel_rfl)
def qf2:FactG:=⟨115,[.ref 0,.int .i64 42,.int .i64 52,.int .i64 7,.fn 92 []],39,zbd 1 [0,1,2,4,8,16,32,3,5,9,17,33,6,10,18,34,12,20,36,24,40,48,7,11,19,35,13,21,37,25,41,49,14,22,38,26,42,50,28,44,52,56,27,43,39,45,57,53,23,15,29,51,30,47,54,55,31,46,58,59,60,61,62,63],.tup [],zbd 1 [0,1,2,4,8,16,32,3,5,9,17,33,6,10,18,34,12,20,36,24,40,48,7,11,19,35,13,21,37,25,41,49,14,22,38,26,42,50,28,44,52,56,15,23,39,27,43,51,29,45,53,57,30,47,54,55,31,46,58,59,60,61,62,63]⟩
theorem qo2:qf2.ok T:=by unfold FactG.ok;exact zev yr (zci qo1 (zci qo0 (zff T))) 100000 (by kernel_rfl)
def qf3:FactG:=⟨91,[.ref 0,.fn 92 []],39,zbd 0 [0,1,2,3,4,5,6,7,8,9,10,11,12,13,14,15,16,17,18,19,20,21,22,23,24,25,26,27,28,29,30,31,32,33,34,35,36,37,38,39,40,41,42,43,44,45,46,47,48,49,50,51,52,53,54,55,56,57,58,59,60,61,62,63],.tup [],zbd 1 [0,1,2,4,8,16,32,3,5,9,17,33,6,10,18,34,12,20,36,24,40,48,7,11,19,35,13,21,37,25,41,49,14,22,38,26,42,50,28,44,52,56,15,23,39,27,43,51,29,45,53,57,30,46,54,58,60,31,47,55,59,61,62,63]⟩
theorem qo3:qf3.ok T:=by unfold FactG.ok;exact zev yr (zci qo2 (zci qo1 (zci qo0 (zff T)))) 100000 (by kernel_rfl)
theorem ms6:(zu T).call 45 [.int .i64 6] [] 0 []=some (.fn 118 [.pp 1 [.sl true 1 ((setsN 6).map (gy (seZ 6)))] 0 0],[],0,[]):=zev yr (zci qo3 (zff T)) 100000 (by kernel_rfl)
theorem c136(n:Nat)(h:n≤6):(zu T).call 45 [.int .i64 n] [] 0 []=some (.fn 118 [.pp 1 [.sl true 1 ((setsN n).map (gy (seZ n)))] 0 0],[],0,[]):=by
 match n,h with
 |0,_=>exact ms0
 |1,_=>exact ms1
 |2,_=>exact ms2
 |3,_=>exact ms3
 |4,_=>exact ms4
 |5,_=>exact ms5
 |6,_=>exact ms6
theorem zk2(n:Nat)(h:n≤6):((setsN n).length≤64∧0<(setsN n).length)∧(∀s∈setsN n,∀i∈s,0≤i∧i<(n:Int))∧(∀s∈setsN n,s.length≤6)∧(setsN n).Pairwise (fun a b=>a.length≤b.length):=by
 match n,h with
 |0,_=>decide+kernel
 |1,_=>decide+kernel
 |2,_=>decide+kernel
 |3,_=>decide+kernel
 |4,_=>decide+kernel
 |5,_=>decide+kernel
 |6,_=>decide+kernel
theorem yol{p:Pk}(h6:p.c.length≤6):Sok p:=
 ⟨(zk2 _ h6).1.1,fun x hx=>⟨by have:=(zk2 _ h6).2.2.1 x hx;omega,(zk2 _ h6).2.1 x hx⟩,c136 _ h6⟩
def zaq(a x:Int×Int):Bool:=a.1==x.1&&a.2==x.2
def zay(x:Int×Int)(l:List (Int×Int)):Bool:=l.any fun a=>zaq a x
theorem xej(a x:Int×Int)(b:Bool)(pr:List (Int×Int))(i:Nat)(hi:pr[i]? =some x):(zu T).call 51 [.agg [.int .i64 a.1,.int .i64 a.2],.pp 1 [.sl b 2 (pr.map jb)] 0 0,.pp 1 [.int .i64 i] 0 0] [] 0 []=some (.bool (zaq a x),[],0,[]):=by
 rw[yz7];have h2:decide (0≤(i:Int)∧(i:Int)<(pr.length:Int))=true:=decide_eq_true (by have:=(List.getElem?_eq_some_iff.1 hi).1;omega);unfold zaq;simp -implicitDefEqProofs only[go_sem,simprocAttr,h2,hi]
def zb9(x:Int×Int):Nat→List (Int×Int)→Int
 |_,[]=> -1
 |i,a::r=>bif zaq a x then i else zb9 x (i+1) r
theorem yxd(x:Int×Int):∀(l:List (Int×Int)) (i:Nat),decide (0≤zb9 x i l)=zay x l:=by
 intro l
 induction l with
 |nil=>intro i;rfl
 |cons a r ih=>
  intro i;rw[show zb9 x i (a::r)=bif zaq a x then(i:Int)else zb9 x (i+1) r from rfl,show zay x (a::r)=(zaq a x||zay x r)from rfl,←ih (i+1)];cases zaq a x<;>simp
theorem yuq(x:Int×Int)(b bp:Bool)(pr:List (Int×Int))(k:Nat)(hk:pr[k]? =some x)(l:List (Int×Int))(hb:l.length<1000000):∀i,i≤l.length→(zu T).loop false [.code (.loop zjq),.inBlock 0,.code (.seq zl6 .ret)] ⟨100,19,0,[(0,.sl b 2 (l.map jb)),(1,.fn 51 [.pp 1 [.sl bp 2 (pr.map jb)] 0 0,.pp 1 [.int .i64 k] 0 0]),(7,.int .i64 l.length),(8,.int .i64 i)],[],0,[]⟩=
  some (.ret (.int .i64 (zb9 x i (l.drop i))),[],0,[]):=by
 refine xh l.length ?_ fun i hi ih=> ?_
 ·have h1:=xu l.length
  rw[zq,List.drop_of_length_le (Nat.le_refl _)];simp -implicitDefEqProofs only[go_sem,simprocAttr,h1];rfl
 ·obtain⟨h1,h2,h3,h4,h5⟩:=ze hi (by omega)
  have e:=xej l[i] x bp pr k hk;rw[zq,h5];simp only[zb9];cases h6:zaq l[i] x
  ·rw[h6]at e
   simp only[cond_false];rw[←ih];simp -implicitDefEqProofs only[go_sem,simprocAttr,h1,h2,h3,h4,e]
  ·rw[h6]at e
   simp only[cond_true];simp -implicitDefEqProofs only[go_sem,simprocAttr,h1,h2,h3,h4,e]
theorem ykx(x:Int×Int)(b bp:Bool)(pr:List (Int×Int))(k:Nat)(hk:pr[k]? =some x)(l:List (Int×Int))(hb:l.length<1000000):(zu T).call 52 [.sl b 2 (l.map jb),.fn 51 [.pp 1 [.sl bp 2 (pr.map jb)] 0 0,.pp 1 [.int .i64 k] 0 0]] [] 0 []=some (.bool (zay x l),[],0,[]):=by
 have h:=yuq x b bp pr k hk l hb 0 (by omega);rw[show((0:Nat):Int)=0 from rfl,List.drop_zero]at h
 have e:(zu T).call 100 [.sl b 2 (l.map jb),.fn 51 [.pp 1 [.sl bp 2 (pr.map jb)] 0 0,.pp 1 [.int .i64 k] 0 0]] [] 0 []=some (.int .i64 (zb9 x 0 l),[],0,[]):=by
  rw[xbh];simp -implicitDefEqProofs only[go_sem,simprocAttr,h]
 rw[yz6];simp -implicitDefEqProofs only[go_sem,simprocAttr,e,zbm,yxd]
def zka(nv s:Nat)(x:Int×Int):Bool:=((decide (x.1<0)||decide ((nv:Int)≤x.1))||decide (x.2<0))||decide ((s:Int)≤x.2)
def knP(nv s:Nat)(x:Int×Int):Int:=cond (zka nv s x) 10 0
theorem yky(p:Pk)(ho:Ok p)(a b:Int):(zu T).call 50 [.agg [.int .i64 a,.int .i64 b],.pp 3 [xq p] 0 0] [] 0 []=some (.int .i64 (knP p.v.length (xa p) (a,b)),[],0,[]):=by
 rw[yz8];obtain⟨r0,g1,g2,g3⟩:=yom ho;unfold knP zka;simp only;cases h1:decide (a<0)
 ·cases h2:decide ((p.v.length:Int)≤a)
  ·cases h3:decide (b<0)
   ·simp -implicitDefEqProofs only[go_sem,simprocAttr,xq,h1,h2,h3,g1,g2,g3,zbm,jl,Bool.false_or]
   ·simp -implicitDefEqProofs only[go_sem,simprocAttr,xq,h1,h2,h3,zbm,jl,Bool.false_or,Bool.true_or]
  ·simp -implicitDefEqProofs only[go_sem,simprocAttr,xq,h1,h2,zbm,jl,Bool.false_or,Bool.true_or]
 ·simp -implicitDefEqProofs only[go_sem,simprocAttr,xq,h1,jl,Bool.true_or]
theorem yu4(p:Pk)(hok:Ok p)(b:Bool)(l:List (Int×Int))(hb:l.length<1000000):∀i,i≤l.length→∀o:Option (List (Int)),u4 o=i→
  (zu T).loop false [.code (.loop zjf),.inBlock 0,.code (.seq zlt .ret)] ⟨34,22,0,[(1,.fn 50 [.pp 3 [xq p] 0 0]),(5,u9 o 0),(8,.sl b 2 (l.map jb)),(9,.int .i64 l.length),(10,.int .i64 i)],gz zx o 41,0,[]⟩=
   some (.ret (uz zx 0 1 (vm o ((l.drop i).map (fun x=>knP p.v.length (xa p) x)))),[],0,[]):=by
 refine xh l.length ?_ fun i hi ih o ho=> ?_
 ·intro o ho
  rw[zq];have h1:=xu l.length;cases o with
  |none=>
   simp -implicitDefEqProofs only[go_sem,simprocAttr,h1];simp[vm,uz]
  |some a=>
   simp -implicitDefEqProofs only[go_sem,simprocAttr,h1];simp[vm,uz]
 ·obtain⟨h1,h2,h3,h4,h5⟩:=ze hi (by omega)
  rw[zq,h5];have ih':=ih (vm o [((fun x=>knP p.v.length (xa p) x) l[i])]) (by rw[kf,ho];rfl);rw[kn]at ih';dsimp only at ih';cases o with
  |none=>
   have h8:=xf (n:=0) (by omega);simp only[km,qd,qm,List.map_cons,List.map_nil,zx]at ih';simp -implicitDefEqProofs only[go_sem,simprocAttr,h1,h2,h3,h4,ih',h8.2,yky p hok]
  |some a=>
   have h9:a.length=i:=ho;have h8:=(xf (n:=a.length) (by omega)).1;simp only[kp,qd,qm,List.map_append,List.map_cons,List.map_nil,zx]at ih';simp -implicitDefEqProofs only[go_sem,simprocAttr,h1,h2,h3,h4,ih',h8,yky p hok]
theorem xel(p:Pk)(hok:Ok p)(b:Bool)(l:List (Int×Int))(hb:l.length<1000000):(zu T).call 34 [.sl b 2 (l.map jb),.fn 50 [.pp 3 [xq p] 0 0]] [] 0 []=some (k7 1 (((l).map (fun x=>knP p.v.length (xa p) x)).map zx),[],0,[]):=by
 rw[yjy];have h:=yu4 p hok b l hb 0 (by omega) none rfl;rw[show((0:Nat):Int)=0 from rfl,List.drop_zero,zal]at h;simp only[vz,vx]at h;simp -implicitDefEqProofs only[go_sem,simprocAttr,h]
def fwr(n:Int)(L:List (List Int)):List (List Int):=L.filter fun s=>decide ((s.length:Int)<n)
theorem yiz(n:Int)(x:List Int)(L:List (List Int)):fwr n (x::L)=(bif decide ((x.length:Int)<n)then [x]else [])++fwr n L:=by
 unfold fwr;by_cases h:(x.length:Int)<n<;>simp[h]
theorem gA2{B L:zw}{N:Nat}(h:B.length=N):(B++L)[N+2]? =L[2]? :=by subst h;rw[List.getElem?_append_right (by omega)];congr 1;omega
abbrev zob:Row:= .cells true false 73 [.ref 1]
def xfz(H:zw)(out:List (Int×Int)):Prop:=
 (out= []∧∃fl,H[3]? =some (.cells true fl 34 [.sl false 0 []]))∨(out≠ []∧∃m fl,H[3]? =some (.cells true fl 34 [.ref m])∧H[m]? =some (.cells false true 31 (out.map jb))∧3<m∧m<H.length)
structure In45 (p:Pk) (L:List (List Int)) (H:zw) (out:List (Int×Int)):Prop where
 n:4≤H.length
 h0:H[0]? =some (.cells true true 76 [xq p])
 h1:H[1]? =some (qh L)
 h2:H[2]? =some zob
 o:xfz H out
theorem yw7(p:Pk)(L:List (List Int))(env:Den.Env)(he:xy env 6= .ptr 3 0 0)(H:zw)(out:List (Int×Int))(x:Int×Int)(hll:out.length<1000)(hI:In45 p L H out)(N:Nat)(hN:H.length=N):
  ∃H',In45 p L H' (out++ [x])∧runK (zu T) T true ql [.code zjw,.beginRound,.code zis] ⟨18,38,N,(32,jb x)::env,H,0,[]⟩=some (.round (some (.exit 1)),H',0,[]):=by
 obtain⟨hn,h0,h1,h2,ho⟩:=hI;have n3:3<N:=by omega
 have d1:decide (N<N+1)=true:=by simp
 have d2:decide (3<N+3)=true:=decide_eq_true (by omega);have d2':decide (3<N+2)=true:=decide_eq_true (by omega);rcases ho with⟨rfl,fl,h3⟩|⟨ho,m,fl,h3,hm,hm3,hmN⟩
 ·have h8:=(xf (n:=0) (by omega)).2
  refine⟨H.set 3 (.cells true false 34 [.ref (N+2)])++ [.cells true true 31 [jb x],.cells false true 31 [jb x],.cells false true 31 [jb x]],⟨by simp;omega,?_,?_,?_,.inr ⟨by simp,N+2,false,?_,?_,by omega,by simp[hN]⟩⟩,?_⟩
  ·rw[List.getElem?_append_left (by simp;omega),List.getElem?_set_ne (by omega),h0]
  ·rw[List.getElem?_append_left (by simp;omega),List.getElem?_set_ne (by omega),h1]
  ·rw[List.getElem?_append_left (by simp;omega),List.getElem?_set_ne (by omega),h2]
  ·rw[List.getElem?_append_left (by simp;omega),List.getElem?_set_self (by omega)]
  ·rw[gA2 (by simp;exact hN)];rfl
  ·simp -implicitDefEqProofs only[go_sem,simprocAttr,he,h3,hN,n3,gA,fk,sA,List.getElem?_append_left,List.set_append_left,List.append_assoc,List.length_set,h8,d1,d2,d2',Nat.zero_shiftRight,Nat.and_zero,Nat.zero_or]
 ·have h8:=(xf (n:=out.length) (by omega)).1
  have d4:decide (m<N+2)=true:=decide_eq_true (by omega);have hmN':m<N:=by omega
  have hd3:(H.set m .dead)[3]? =some (.cells true fl 34 [.ref m]):=by rw[List.getElem?_set_ne (by omega),h3]
  refine⟨(H.set m .dead).set 3 (.cells true false 34 [.ref (N+2)])++ [.cells true true 31 [jb x],.cells false true 31 [jb x],.cells false true 31 ((out++ [x]).map jb)],⟨by simp;omega,?_,?_,?_,.inr ⟨by simp,N+2,false,?_,?_,by omega,by simp[hN]⟩⟩,?_⟩
  ·rw[List.getElem?_append_left (by simp;omega),List.getElem?_set_ne (by omega),List.getElem?_set_ne (by omega),h0]
  ·rw[List.getElem?_append_left (by simp;omega),List.getElem?_set_ne (by omega),List.getElem?_set_ne (by omega),h1]
  ·rw[List.getElem?_append_left (by simp;omega),List.getElem?_set_ne (by omega),List.getElem?_set_ne (by omega),h2]
  ·rw[List.getElem?_append_left (by simp;omega),List.getElem?_set_self (by simp;omega)]
  ·rw[gA2 (by simp;exact hN)];rfl
  ·simp only[List.map_append,List.map_cons,List.map_nil]
   simp -implicitDefEqProofs only[go_sem,simprocAttr,he,h3,hm,hd3,hN,n3,hmN',gA,fk,sA,List.getElem?_append_left,List.set_append_left,List.append_assoc,List.length_set,h8,d1,d2,d2',d4,Nat.zero_shiftRight,Nat.and_zero,Nat.zero_or]
def zfi(p:Pk)(x x0:List Int)(caps:List V)(env:Den.Env):Den.Env:=
 (31,.fn 98 caps)::(30,.sl (!x.isEmpty) 1 (x.map zx))::(29,xq p)::(28,.bool false)::(27,.int .i64 x0.length)::(26,.sl (!x0.isEmpty) 1 (x0.map zx))::(25,.ptr 1 0 0)::(24,.ref 1)::(23,.int .i64 x.length)::
  (22,.sl (!x.isEmpty) 1 (x.map zx))::(7,.sl (!x.isEmpty) 1 (x.map zx))::(21,.sl (!x.isEmpty) 1 (x.map zx))::env
theorem yza(p:Pk)(x x0:List Int)(caps:List V)(env:Den.Env)(he:xy env 6= .ptr 3 0 0):xy (zfi p x x0 caps env) 6= .ptr 3 0 0:=by
 unfold zfi;simp -implicitDefEqProofs only[go_sem,simprocAttr,he]
def yc(p:Pk)(x x0:List Int)(caps:List V)(env:Den.Env)(H:zw)(d:Bool)(pd:Option Code)(N:Nat):Own:=⟨18,38,zfi p x x0 caps env,H,0,[32],zjw,zis,d,pd,N⟩
theorem ypo(p:Pk)(ho:Ok p)(L:List (List Int))(x0:List Int)(hx0:L[0]? =some x0)(env:Den.Env)(he1:xy env 1= .ptr 0 0 0)(he4:xy env 4= .ptr 2 0 0)(he6:xy env 6= .ptr 3 0 0)(H:zw)(out:List (Int×Int))(hol:out.length<1000)
  (x:List Int)(hx:x.length<1000000)(hv:gx p x)(hI:In45 p L H out)(N:Nat)(hN:H.length=N)(hlt:decide ((x0.length:Int)≤x.length)=false):
  ∃H',In45 p L H' (out++(wo p x).take 1)∧runK (zu T) T true ql [.code zcu,.beginRound,.code zcq] ⟨18,38,N,(21,jx x)::env,H,0,[]⟩=some (.round none,H',0,[]):=by
 obtain⟨caps,i1,i2,hcl,e1⟩:∃caps,zt caps= []∧xj caps=false∧zcz caps (wo p x)∧(zu T).call 46 [xq p,.sl (!x.isEmpty) 1 (x.map zx)] [] 0 []=some (.fn 98 caps,[],0,[]):=
  ⟨zcp p x,(zco p x).1,(zco p x).2,call125 p ho x,ziu p ho (!x.isEmpty) 1 x hx hv (fun _=>rfl)⟩
 have hI0:=hI;obtain⟨hn,h0,h1,h2,_⟩:=hI;have d0:decide (0<(L.length:Int))=true:=decide_eq_true (by have:=(List.getElem?_eq_some_iff.1 hx0).1;omega);have h0':=h0;have e1':=e1;simp only[xq]at h0' e1'
 have start:∀R,(∀own',(zu T).call 98 (.yld (List.length ([]:xt))::caps) [] 0 ([]++ [yc p x x0 caps env H false none N])=some (.tup [],[],0,[]++ [own'])→
   runK (zu T) T true 99988 (match own'.pending with|some c=> .code c:: [.inBlock 2,.inBlock 1]|none=> [.inBlock 2,.inBlock 1]) ⟨own'.fn,own'.nt,N,own'.env,own'.H,own'.Fz,[]⟩=R→
   runK (zu T) T true ql [.code zcu,.beginRound,.code zcq] ⟨18,38,N,(21,jx x)::env,H,0,[]⟩=R):=by
  intro R own' hc hR;simp -implicitDefEqProofs only[go_sem,simprocAttr,he1,he4,h0',h1,h2,hN,d0,hx0,zbm,hlt,e1',i1];unfold yc zfi xq at hc;rw[zbf (f:= .tmp 31) (g:=98) (caps:=caps) (S:= []) (ps:= #[32]) rfl i1 i2 zaf.1 zaf.2.1 zel rfl hc];exact hR
 cases hxs:wo p x with
 |nil=>
  refine⟨H,by rw[List.take_nil,List.append_nil];exact hI0,?_⟩;refine start _ (yc p x x0 caps env H false none N) ?_ ?_
  ·rw[hxs]at hcl
   exact hcl _ _ true rfl
  ·simp only[yc]
   simp -implicitDefEqProofs only[go_sem,simprocAttr]
 |cons y ys=>
  obtain⟨H',hI',hr⟩:=yw7 p L (zfi p x x0 caps env) (yza p x x0 caps env he6) H out y hol hI0 N hN;refine⟨H',by rw[show(y::ys).take 1= [y]from rfl];exact hI',?_⟩
  have hY:=zba (S:= []) (own:=yc p x x0 caps env H false none N) (by kernel_rfl) rfl (args:= [jb y]) rfl (by
   simp only[yc];rw[hN];exact hr)
  have hY':(zu T).yld 0 [jb y] [yc p x x0 caps env H false none N]=some (false,[yc p x x0 caps env H' true (some (.exit 1)) N]):=hY;refine start _ (yc p x x0 caps env H' true (some (.exit 1)) N) ?_ ?_
  ·rw[hxs]at hcl
   refine hcl _ _ false ?_;show(match (zu T).yld 0 [jb y] [yc p x x0 caps env H false none N]with|some (true,S')=>qf T 0 (ys.map jb) S'|o=>o)=_;rw[hY'];rfl
  ·simp only[yc]
   simp -implicitDefEqProofs only[go_sem,simprocAttr]
theorem xfb(p:Pk)(L:List (List Int))(x0:List Int)(hx0:L[0]? =some x0)(env:Den.Env)(he4:xy env 4= .ptr 2 0 0)(H:zw)(out:List (Int×Int))(x:List Int)(hI:In45 p L H out)(N:Nat)(hlt:decide ((x0.length:Int)≤x.length)=true):
  runK (zu T) T true ql [.code zcu,.beginRound,.code zcq] ⟨18,38,N,(21,jx x)::env,H,0,[]⟩=some (.round (some (.exit 0)),H,0,[]):=by
 obtain⟨hn,h0,h1,h2,_⟩:=hI;have d0:decide (0<(L.length:Int))=true:=decide_eq_true (by have:=(List.getElem?_eq_some_iff.1 hx0).1;omega);simp -implicitDefEqProofs only[go_sem,simprocAttr,he4,h1,h2,d0,hx0,zbm,hlt]
def pfL(p:Pk)(k:Nat):List (List Int)→List (Int×Int)
 | []=> []
 |s::r=>bif decide ((k:Int)≤s.length)then []else(wo p s).take 1++pfL p k r
def zat(env:Den.Env)(H:zw)(d:Bool)(pd:Option Code):Own:=⟨18,38,env,H,0,[21],zcu,zcq,d,pd,0⟩
theorem ypk(p:Pk)(ho:Ok p)(L:List (List Int))(x0:List Int)(hx0:L[0]? =some x0)(env:Den.Env)(he1:xy env 1= .ptr 0 0 0)(he4:xy env 4= .ptr 2 0 0)(he6:xy env 6= .ptr 3 0 0):∀(xs:List (List Int)),(∀x∈xs,x.length<1000000∧gx p x)→∀(H:zw) (out:List (Int×Int)),In45 p L H out→out.length+xs.length<900→
  ∃b H' pd,In45 p L H' (out++pfL p x0.length xs)∧(pd=none∨pd=some (.exit 0))∧qf T 0 (xs.map jx) [zat env H false none]=some (b,[zat env H' pd.isSome pd]):=by
 intro xs
 induction xs with
 |nil=>intro _ H out hI _;exact⟨true,H,none,by rw[show pfL p x0.length []= []from rfl,List.append_nil];exact hI,.inl rfl,rfl⟩
 |cons x xs ih=>
  intro hx H out hI hl;simp only[List.length_cons]at hl;obtain⟨x1,x2⟩:=hx x (by simp);cases hlt:decide ((x0.length:Int)≤x.length)
  ·obtain⟨H1,hI1,hr⟩:=ypo p ho L x0 hx0 env he1 he4 he6 H out (by omega) x x1 x2 hI H.length rfl hlt
   have hY:=zba (S:= []) (own:=zat env H false none) (by kernel_rfl) rfl (args:= [jx x]) rfl hr;have hY':(zu T).yld 0 [jx x] [zat env H false none]=some (true,[zat env H1 false none]):=hY;have htl:((wo p x).take 1).length≤1:=by rw[List.length_take];omega
   obtain⟨b,H',pd,j1,j2,j3⟩:=ih (fun y hy=>hx y (by simp[hy])) H1 _ hI1 (by rw[List.length_append];omega);refine⟨b,H',pd,?_,j2,?_⟩
   ·rw[List.append_assoc]at j1
    rw[show pfL p x0.length (x::xs)=bif decide ((x0.length:Int)≤x.length)then []else(wo p x).take 1++pfL p x0.length xs from rfl,hlt];exact j1
   ·simp only[List.map_cons,qf]
    rw[hY'];exact j3
  ·have hr:=xfb p L x0 hx0 env he4 H out x hI H.length hlt
   have hY:=zba (S:= []) (own:=zat env H false none) (by kernel_rfl) rfl (args:= [jx x]) rfl hr;have hY':(zu T).yld 0 [jx x] [zat env H false none]=some (false,[zat env H true (some (.exit 0))]):=hY;refine⟨false,H,some (.exit 0),?_,.inr rfl,?_⟩
   ·rw[show pfL p x0.length (x::xs)=bif decide ((x0.length:Int)≤x.length)then []else(wo p x).take 1++pfL p x0.length xs from rfl,hlt,cond_true,List.append_nil]
    exact hI
   ·simp only[List.map_cons,qf]
    rw[hY'];rfl
def zck(p:Pk):Den.Env:= [(20,.fn 118 (v5 p.c.length)),(19,.int .i64 p.c.length),(18,.sl p.cb 3 (p.c.map czV)),(17,.ptr 0 0 2),(6,.ptr 3 0 0),(15,.bool false),(14,.int .i64 0),(5,.int .i64 0),(4,.ptr 2 0 0),(13,.int .i64 0),
 (12,.ref 1),(9,.tup [.ref 1,.int .i64 0]),(11,.tup [.ref 1,.int .i64 0]),(10,xq p),(3,.int .i64 0),(2,.sl false 0 []),(1,.ptr 0 0 0),(0,xq p)]
theorem c45(p:Pk)(hf:p.fit)(h:j8 p=0)(hs:Sok p)(hx:exA p≠ [])(x0:List Int)(hx0:(exA p)[0]? =some x0):(zu T).call 18 [xq p] [] 0 []=some (.tup [k7 2 ((pfL p x0.length (setsN p.c.length)).map jb),.int .i64 0],[],0,[]):=by
 have e:=zoc p hf h hs hx;have e1:=hs.c136;have hl:=hs.len;obtain⟨b,H',pd,j1,j2,j3⟩:=ypk p (zdi h) (exA p) x0 hx0 (zck p) rfl rfl rfl (setsN p.c.length) hs.el [.cells true true 76 [xq p],qh (exA p),zob,.cells true true 34 [.sl false 0 []]] [] ⟨by simp,rfl,rfl,rfl,.inl ⟨rfl,true,rfl⟩⟩ (by simp;omega);rw[List.nil_append]at j1
 have hc:(zu T).call 118 (.yld (List.length ([]:xt))::v5 p.c.length) [] 0 ([]++ [⟨18,38,zck p,[.cells true true 76 [xq p],qh (exA p),zob,.cells true true 34 [.sl false 0 []]],0,(#[21]:Array Nat).toList,zcu,zcq,false,none,0⟩])=some (.tup [],[],0,[]++ [zat (zck p) H' pd.isSome pd]):=
  zoa _ _ 0 (by omega) _ _ b j3
 have start:∀R,zb1 (runK (zu T) T false 99981 (match pd with|some c=> .code c:: [.inBlock 0,.code (r18_11.seq .ret),.inScope zgs]|none=> [.inBlock 0,.code (r18_11.seq .ret),.inScope zgs]) ⟨18,38,0,zck p,H',0,[]⟩)=R→(zu T).call 18 [xq p] [] 0 []=R:=by
  intro R hR;rw[xao];simp only[xq]at e;simp -implicitDefEqProofs only[go_sem,simprocAttr,xq,e,e1];unfold zck xq at hc;rw[zbf (f:= .tmp 20) (g:=118) (caps:=v5 p.c.length) (S:= []) (ps:= #[21]) rfl rfl rfl zdw.1 zdw.2.1 zk4 rfl hc];unfold zck xq at hR;exact hR
 obtain⟨hn,h0,h1,h2,ho⟩:=j1;refine start _ ?_;unfold zck;generalize pfL p x0.length (setsN p.c.length)=out at*;rcases ho with⟨rfl,fl,h3⟩|⟨hne,m,fl,h3,hm,_,_⟩
 ·rcases j2 with rfl|rfl
  ·simp -implicitDefEqProofs only[go_sem,simprocAttr,h3]
   rfl
  ·simp -implicitDefEqProofs only[go_sem,simprocAttr,h3]
   rfl
 ·rw[yor _ _ (by simpa using hne)]
  rcases j2 with rfl|rfl
  ·simp -implicitDefEqProofs only[go_sem,simprocAttr,h3,hm]
  ·simp -implicitDefEqProofs only[go_sem,simprocAttr,h3,hm]
def zj1(H:zw)(l:List (List Int)):Prop:=1≤H.length∧
 ((l= []∧∃fl,H[0]? =some (.cells true fl 73 [.sl false 0 []]))∨(l≠ []∧∃m fl,H[0]? =some (.cells true fl 73 [.ref m])∧H[m]? =some (qh l)∧0<m∧m<H.length))
theorem ypp(env:Den.Env)(he:xy env 2= .ptr 0 0 0)(H:zw)(l:List (List Int))(x:List Int)(hll:l.length<1000)(hI:zj1 H l)(N:Nat)(hN:H.length=N):
  ∃H',zj1 H' (l++ [x])∧runK (zu T) T true ql [.code zgc,.beginRound,.code zfr] ⟨99,13,N,(7,jx x)::env,H,0,[]⟩=some (.round none,H',0,[]):=by
 obtain⟨hn,hI⟩:=hI;have n0:0<N:=by omega
 have d2:decide (0<N+2)=true:=decide_eq_true (by omega);rcases hI with⟨rfl,fl,h1⟩|⟨hl,m,fl,h1,hm,hm1,hmN⟩
 ·have h8:=(xf (n:=0) (by omega)).2
  refine⟨H.set 0 (.cells true false 73 [.ref (N+1)])++ [.cells false true 39 [jx x],.cells false true 39 [jx x]],⟨by simp,.inr ⟨by simp,N+1,false,?_,?_,by omega,by simp[hN]⟩⟩,?_⟩
  ·rw[List.getElem?_append_left (by simp;omega),List.getElem?_set_self (by omega)]
  ·rw[fk (by simp;exact hN)];rfl
  ·simp -implicitDefEqProofs only[go_sem,simprocAttr,he,h1,hN,n0,gA,fk,sA,List.getElem?_append_left,List.set_append_left,List.append_assoc,List.length_set,h8,d2,Nat.zero_shiftRight,Nat.and_zero,Nat.zero_or]
 ·have h8:=(xf (n:=l.length) (by omega)).1
  have d4:decide (m<N+1)=true:=decide_eq_true (by omega);have hmN':m<N:=by omega
  have hd1:(H.set m .dead)[0]? =some (.cells true fl 73 [.ref m]):=by rw[List.getElem?_set_ne (by omega),h1]
  refine⟨(H.set m .dead).set 0 (.cells true false 73 [.ref (N+1)])++ [.cells false true 39 [jx x],.cells false true 39 ((l++ [x]).map jx)],⟨by simp,.inr ⟨by simp,N+1,false,?_,?_,by omega,by simp[hN]⟩⟩,?_⟩
  ·rw[List.getElem?_append_left (by simp;omega),List.getElem?_set_self (by simp;omega)]
  ·rw[fk (by simp;exact hN)];rfl
  ·simp only[List.map_append,List.map_cons,List.map_nil]
   simp -implicitDefEqProofs only[go_sem,simprocAttr,he,h1,hm,hd1,hN,n0,hmN',gA,fk,sA,List.getElem?_append_left,List.set_append_left,List.append_assoc,List.length_set,h8,d2,d4,Nat.zero_shiftRight,Nat.and_zero,Nat.zero_or]
def zfj(n:Nat):Den.Env:= [(6,.fn 118 (v5 n)),(4,.sl false 0 []),(2,.ptr 0 0 0),(0,.sl false 0 []),(1,.fn 118 (v5 n))]
def zb3(n:Nat)(H:zw):Own:=⟨99,13,zfj n,H,0,[7],zgc,zfr,false,none,0⟩
theorem ypl(n:Nat):∀(xs:List (List Int)) (H:zw) (l:List (List Int)),zj1 H l→l.length+xs.length<1000→∃H',zj1 H' (l++xs)∧qf T 0 (xs.map jx) [zb3 n H]=some (true,[zb3 n H']):=by
 intro xs
 induction xs with
 |nil=>intro H l hI _;exact⟨H,by rw[List.append_nil];exact hI,rfl⟩
 |cons x xs ih=>
  intro H l hI hl;simp only[List.length_cons]at hl;obtain⟨H1,hI1,hr⟩:=ypp (zfj n) rfl H l x (by omega) hI H.length rfl;have hy:=zba (S:= []) (own:=zb3 n H) (by kernel_rfl) rfl (args:= [jx x]) rfl hr;obtain⟨H',j1,j2⟩:=ih H1 _ hI1 (by rw[List.length_append,List.length_singleton];omega);refine⟨H',by rw[List.append_assoc]at j1;exact j1,?_⟩;have hy':(zu T).yld 0 [jx x] [zb3 n H]=some (true,[zb3 n H1]):=hy;simp only[List.map_cons,qf];rw[hy'];exact j2
theorem xd2(n:Nat)(hl:(setsN n).length≤64)(hne:setsN n≠ []):∃H' m,H'[m]? =some (qh (setsN n))∧(zu T).call 99 [.sl false 0 [],.fn 118 (v5 n)] [] 0 []=some (.ref m,H',0,[]):=by
 obtain⟨H',⟨i1,i2⟩,hy⟩:=ypl n (setsN n) [.cells true true 73 [.sl false 0 []]] [] ⟨by simp,.inl ⟨rfl,true,rfl⟩⟩ (by simp;omega);rw[List.nil_append]at i2;rcases i2 with⟨h,_⟩|⟨_,m,fl,h1,h2,_,_⟩
 ·exact absurd h hne
 refine⟨H',m,h2,?_⟩
 have e:(zu T).call 118 (.yld (List.length ([]:xt))::v5 n) [] 0 ([]++ [⟨99,13,zfj n,[.cells true true 73 [.sl false 0 []]],0,(#[7]:Array Nat).toList,zgc,zfr,false,none,0⟩])=some (.tup [],[],0,[]++ [zb3 n H']):=
  zoa _ _ 0 (by omega) _ _ true hy
 rw[yzc];simp -implicitDefEqProofs only[go_sem,simprocAttr];unfold zfj at e;rw[zbf (f:= .tmp 6) (g:=118) (caps:=v5 n) (S:= []) (ps:= #[7]) rfl rfl rfl zdw.1 zdw.2.1 zk4 rfl e];simp only[zb3,zfj];simp -implicitDefEqProofs only[go_sem,simprocAttr,h1]
theorem yk0(n:Nat)(hl:(setsN n).length≤64)(hne:setsN n≠ []):(zu T).call 48 [.fn 118 (v5 n)] [] 0 []=some (.ref 0,[qh (setsN n)],0,[]):=by
 obtain⟨H',m,h1,h2⟩:=xd2 n hl hne;rw[xaa];simp -implicitDefEqProofs only[go_sem,simprocAttr,h1,h2]
theorem ykz(n:Int)(s:List Int):(zu T).call 49 [.sl (!s.isEmpty) 1 (s.map zx),.pp 1 [.int .i64 n] 0 0] [] 0 []=some (.bool (decide (n≤(s.length:Int))),[],0,[]):=by
 rw[yz9];simp -implicitDefEqProofs only[go_sem,simprocAttr,zbm]
abbrev cN(n:Int):Row:= .cells true true 3 [.int .i64 n]
abbrev f139:V:= .fn 49 [.ptr 1 0 0]
structure CutN (n:Int) (l:List (List Int)) (k:Nat):Prop where
 le:k≤l.length
 ha:∀i (h:i<l.length),i<k→(l[i].length:Int)<n
 hb:∀i (h:i<l.length),k≤i→n≤(l[i].length:Int)
 hm:l.length<1000
 h0:0<l.length
def za6(l:List (List Int))(n:Int)(i:Nat)(z:Nat):Option Out:=
 (zu T).loop false [.code (.loop zfy),.inBlock 0,.code (.seq zg0 .ret)]
  ⟨78,19,2,[(0,.ref 0),(1,f139),(7,.int .i64 l.length),(8,.int .i64 i)],[qh l,cN n],z,[]⟩
theorem zkw(n:Int)(l:List (List Int))(k:Nat)(hc:CutN n l k)(i:Nat)(hi:i<l.length)(z:Nat)(hz:z=0∨z=2):za6 l n i z=if i<k then za6 l n (i+1) 2 else some (.ret (.int .i64 i),[qh l,cN n],2,[]):=by
 have hm:=hc.hm;obtain⟨h1,h2,h3,h4,h5⟩:=ze hi (by omega);have e:=ykz n l[i];by_cases h:i<k
 ·have hb:decide (n≤(l[i].length:Int))=false:=by have:=hc.ha i hi h;simp;omega
  rw[if_pos h]
  conv=>lhs;unfold za6;rw[zq]
  unfold za6;rcases hz with rfl|rfl
  ·simp -implicitDefEqProofs only[go_sem,simprocAttr,h1,h2,h3,h4,e,hb]
  ·simp -implicitDefEqProofs only[go_sem,simprocAttr,h1,h2,h3,h4,e,hb]
 ·have hb:decide (n≤(l[i].length:Int))=true:=by have:=hc.hb i hi (by omega);simp;omega
  rw[if_neg h];unfold za6;rw[zq];rcases hz with rfl|rfl
  ·simp -implicitDefEqProofs only[go_sem,simprocAttr,h1,h2,h3,h4,e,hb]
  ·simp -implicitDefEqProofs only[go_sem,simprocAttr,h1,h2,h3,h4,e,hb]
theorem yuu(n:Int)(l:List (List Int))(k:Nat)(hc:CutN n l k):∀i,i≤k→za6 l n i 2=some (.ret (.int .i64 (if k=l.length then -1 else k)),[qh l,cN n],2,[]):=by
 have hm:=hc.hm;have hn:=hc.le;refine xh k ?_ fun i hi ih=> ?_
 ·by_cases hE:k=l.length
  ·have h1:=xu l.length
   unfold za6;rw[if_pos hE,zq];subst hE;simp -implicitDefEqProofs only[go_sem,simprocAttr,h1]
  ·rw[zkw n l k hc k (by omega) 2 (.inr rfl),if_neg (by omega),if_neg hE]
 ·rw[zkw n l k hc i (by omega) 2 (.inr rfl),if_pos hi,ih]
theorem xd7(n:Int)(l:List (List Int))(k:Nat)(hc:CutN n l k):(zu T).call 78 [.ref 0,f139] [qh l,cN n] 0 []=some (.int .i64 (if k=l.length then -1 else k),[qh l,cN n],2,[]):=by
 have h:za6 l n 0 0=some (.ret (.int .i64 (if k=l.length then -1 else k)),[qh l,cN n],2,[]):=by
  have h0:=hc.h0;rw[zkw n l k hc 0 h0 0 (.inl rfl)];by_cases h:0<k
  ·rw[if_pos h,yuu n l k hc 1 (by omega)]
  ·rw[if_neg h,if_neg (by omega),show k=0 by omega]
 unfold za6 at h;rw[show((0:Nat):Int)=0 from rfl]at h;rw[yjq];simp -implicitDefEqProofs only[go_sem,simprocAttr,h]
theorem xdi(n:Int)(l:List (List Int))(k:Nat)(hc:CutN n l k)(kk:V→Prog)(S:xt)(rd wr fr:Nat)(sk:Bool)(K:V→zw→Nat→xt→FP→Option Out):(callP (zu T) T 78 [.ref 0,.fn 49 [.ptr 1 0 0]] kk).go none [.cells false true 39 (l.map jx),.cells true true 3 [.int .i64 n]] 0 S ⟨rd,wr,fr,sk⟩ K=
  (kk (.int .i64 (if k=l.length then -1 else k))).go none [.cells false true 39 (l.map jx),.cells true true 3 [.int .i64 n]] 2 S ⟨rd|||bit 0|||bit 1|||bit 0|||bit 1,wr|||bit 0|||bit 1|||bit 0|||bit 1,fr|||bit 1,sk⟩ K:=by
 refine(zh4 (x:=0) (y:=1) yi9.1 rfl kk (fun k'=>zgy (by omega) rfl rfl 9996 k') rfl rfl rfl rfl rfl rfl (xd7 n l k hc) rfl).trans ?_;simp -implicitDefEqProofs only[go_sem,simprocAttr]
def zjy(l:List (List Int))(n:Int)(k j:Nat):Option Out:=
 (zu T).loop false [.code (.loop zf2),.inBlock 0,.code (.seq zg4 (.seq zg3 .ret))]
  ⟨39,42,2,[(0,.ref 0),(1,f139),(5,.int .i64 k),(6,.int .i64 j)],[qh l,cN n],2,[]⟩
theorem yu7(n:Int)(l:List (List Int))(k:Nat)(hc:CutN n l k):∀j,j≤l.length→k≤j→zjy l n k j=some (.ret (.sub 0 0 k),[.cells false true 39 (clr l k),cN n],2,[]):=by
 have hm:=hc.hm;have hn:=hc.le;refine xh l.length ?_ fun j hj ih=> ?_
 ·intro _
  unfold zjy;rw[zq];have h1:=xu l.length;have d1:decide (k≤l.length)=true:=decide_eq_true hn;have d2:decide (0≤(k:Int))=true:=decide_eq_true (by omega);have d3:decide (k≤l.length∧l.length≤l.length)=true:=decide_eq_true ⟨hn,Nat.le_refl _⟩;have d4:decide (0≤k∧k≤(List.take k (List.map jx l)).length+((List.replicate (l.length- k) (V.sl false 0 [])).length+(List.drop (k+(l.length- k)) (List.map jx l)).length))=true:=decide_eq_true ⟨Nat.zero_le _,by simp;omega⟩;simp -implicitDefEqProofs only[go_sem,simprocAttr,h1,d1,d2,d3,d4,Nat.sub_zero]
 ·intro hAj
  obtain⟨h1,h2,h3,h4,h5⟩:=ze hj (by omega);have e:=ykz n l[j];have hb:decide (n≤(l[j].length:Int))=true:=by have:=hc.hb j hj hAj;simp;omega
  rw[←ih (by omega)];unfold zjy
  conv=>lhs;rw[zq]
  simp -implicitDefEqProofs only[go_sem,simprocAttr,h1,h2,h3,h4,e,hb]
theorem yk1(n:Int)(l:List (List Int))(k:Nat)(hc:CutN n l k):(zu T).call 39 [.ref 0,f139] [qh l,cN n] 0 []=if k=l.length then some (.ref 0,[qh l,cN n],2,[])else some (.sub 0 0 k,[.cells false true 39 (clr l k),cN n],2,[]):=by
 rw[yju];have e:=xdi n l k hc;have hm:=hc.hm;have hn:=hc.le;by_cases hE:k=l.length
 ·rw[if_pos hE]
  simp only[if_pos hE]at e;simp -implicitDefEqProofs only[go_sem,simprocAttr,e]
 ·rw[if_neg hE]
  simp only[if_neg hE]at e;have hb:((k:Int)== -1)=false:=by simp
  have hw:IntKind.i64.wrap ((k:Int)+1)=((k+1:Nat):Int):=by rw[wrap64]<;>omega
  have h:=yu7 n l k hc (k+1) (by omega) (by omega);unfold zjy at h;simp -implicitDefEqProofs only[go_sem,simprocAttr,e,hb,hw,h]
theorem zpi(n:Int):∀(l:List (List Int)),l.Pairwise (fun a b=>a.length≤b.length)→∃k,k≤l.length∧fwr n l=l.take k∧(∀i (h:i<l.length),i<k→(l[i].length:Int)<n)∧(∀i (h:i<l.length),k≤i→n≤(l[i].length:Int)):=by
 intro l
 induction l with
 |nil=>intro _;exact⟨0,by simp,by simp[fwr],by intro i h;exact absurd h (by simp),by intro i h;exact absurd h (by simp)⟩
 |cons a r ih=>
  intro hp;obtain⟨ha,hp2⟩:=List.pairwise_cons.1 hp;by_cases h:(a.length:Int)<n
  ·obtain⟨k,h1,h2,h3,h4⟩:=ih hp2
   refine⟨k+1,by simp;omega,?_,?_,?_⟩
   ·rw[yiz,h2,decide_eq_true h,cond_true,List.take_succ_cons];rfl
   ·intro i hi hn
    cases i with
    |zero=>exact h
    |succ i=>simpa using h3 i (by simpa using hi) (by omega)
   ·intro i hi hn
    cases i with
    |zero=>omega
    |succ i=>simpa using h4 i (by simpa using hi) (by omega)
  ·have hall:∀s∈a::r,n≤(s.length:Int):=by
    intro s hs;rcases List.mem_cons.1 hs with rfl|hs
    ·omega
    ·have:=ha s hs;omega
   refine⟨0,by simp,?_,fun i _ h=>by omega,fun i hi _=>hall _ (List.getElem_mem hi)⟩;unfold fwr;rw[List.take_zero,List.filter_eq_nil_iff];intro s hs;have:=hall s hs;simp;omega
def zbq(p:Pk):List (List Int)→List (Int×Int)→Int
 |s::L,x::r=>bif zay x (wo p s)then zbq p L r else 19
 |_,_=>0
def zec(p:Pk)(W:List (List Int))(R:List V)(pr:List (Int×Int))(i z:Nat):Option Out:=
 (zu T).loop false [.code (.loop zd6),.inBlock 0,.code (.seq zeo .ret)]
  ⟨20,67,0,[(3,.ptr 0 0 0),(5,.ptr 1 0 0),(51,.ref 2),(52,.int .i64 W.length),(53,.int .i64 i)],[.cells true true 76 [xq p],.cells true true 34 [.sl true 2 (pr.map jb)],.cells false true 39 R],z,[]⟩
theorem yui(p:Pk)(ho:Ok p)(W:List (List Int))(hW:W.length<1000)(hel:∀x∈W,x.length<1000000∧gx p x)(R:List V)(hR:∀i (h:i<W.length),R[i]? =some (jx W[i]))(hlen:R.length=W.length)(pr:List (Int×Int))(hp:pr.length=W.length):∀i,i≤W.length→∀z,z=1∨z=3→zec p W R pr i z=some (.ret (.int .i64 (zbq p (W.drop i) (pr.drop i))),[],0,[]):=by
 refine xh W.length ?_ fun i hi ih=> ?_
 ·intro z hz
  unfold zec;have h1:=xu W.length;rw[zq,List.drop_of_length_le (Nat.le_refl _),List.drop_of_length_le (by omega)];rcases hz with rfl|rfl
  ·simp -implicitDefEqProofs only[go_sem,simprocAttr,xq,h1]
   rfl
  ·simp -implicitDefEqProofs only[go_sem,simprocAttr,xq,h1]
   rfl
 ·intro z hz
  obtain⟨h1,h2,h3,h4,h5⟩:=ze hi (by omega);obtain⟨g1,g2,g3,g4,g5⟩:=ze (l:=pr) (i:=i) (by omega) (by omega);obtain⟨x1,x2⟩:=hel _ (List.getElem_mem hi);have hr:=hR i hi;rw[h5,g5];simp only[zbq];generalize W[i]=x at*;have hy3:=g3;generalize pr[i]'(by omega)=y at*
  obtain⟨caps,i1,i2,hcl,e1⟩:∃caps,zt caps= []∧xj caps=false∧zcz caps (wo p x)∧(zu T).call 46 [xq p,.sl (!x.isEmpty) 1 (x.map zx)] [] 0 []=some (.fn 98 caps,[],0,[]):=
   ⟨zcp p x,(zco p x).1,(zco p x).2,call125 p ho x,ziu p ho (!x.isEmpty) 1 x x1 x2 (fun _=>rfl)⟩
  have hul:=zo5 ho x;have e2:=yk2 caps i1 i2 (wo p x) (by omega) hcl;have e3:=ykx y (!((wo p x).map jb).isEmpty) true pr i hy3 (wo p x) (by omega);simp only[xq]at e1;cases h6:zay y (wo p x)
  ·rw[h6]at e3
   simp only[cond_false];unfold zec;rw[zq];rcases hz with rfl|rfl
   ·simp -implicitDefEqProofs only[go_sem,simprocAttr,xq,h1,h2,hlen,hr,h4,e1,i1,i2,e2,e3]
   ·simp -implicitDefEqProofs only[go_sem,simprocAttr,xq,h1,h2,hlen,hr,h4,e1,i1,i2,e2,e3]
  ·rw[h6]at e3
   simp only[cond_true];rw[←ih 3 (.inr rfl)]
   conv=>lhs;unfold zec;rw[zq]
   unfold zec;rcases hz with rfl|rfl
   ·simp -implicitDefEqProofs only[go_sem,simprocAttr,xq,h1,h2,hlen,hr,h4,e1,i1,i2,e2,e3]
   ·simp -implicitDefEqProofs only[go_sem,simprocAttr,xq,h1,h2,hlen,hr,h4,e1,i1,i2,e2,e3]
def zeb(p:Pk)(W:List (List Int))(R:List V)(pr:List (Int×Int))(i z:Nat):Option Out:=
 (zu T).loop false [.code (.loop zd6),.inBlock 0,.code (.seq zeo .ret)]
  ⟨20,67,0,[(3,.ptr 0 0 0),(5,.ptr 1 0 0),(51,.sub 2 0 W.length),(52,.int .i64 W.length),(53,.int .i64 i)],[.cells true true 76 [xq p],.cells true true 34 [.sl true 2 (pr.map jb)],.cells false true 39 R],z,[]⟩
theorem yuh(p:Pk)(ho:Ok p)(W:List (List Int))(hW:W.length<1000)(hel:∀x∈W,x.length<1000000∧gx p x)(R:List V)(hR:∀i (h:i<W.length),R[i]? =some (jx W[i]))(pr:List (Int×Int))(hp:pr.length=W.length):∀i,i≤W.length→∀z,z=1∨z=3→zeb p W R pr i z=some (.ret (.int .i64 (zbq p (W.drop i) (pr.drop i))),[],0,[]):=by
 refine xh W.length ?_ fun i hi ih=> ?_
 ·intro z hz
  unfold zeb;have h1:=xu W.length;rw[zq,List.drop_of_length_le (Nat.le_refl _),List.drop_of_length_le (by omega)];rcases hz with rfl|rfl
  ·simp -implicitDefEqProofs only[go_sem,simprocAttr,xq,h1]
   rfl
  ·simp -implicitDefEqProofs only[go_sem,simprocAttr,xq,h1]
   rfl
 ·intro z hz
  obtain⟨h1,h2,h3,h4,h5⟩:=ze hi (by omega);obtain⟨g1,g2,g3,g4,g5⟩:=ze (l:=pr) (i:=i) (by omega) (by omega);obtain⟨x1,x2⟩:=hel _ (List.getElem_mem hi);have hr:=hR i hi;rw[h5,g5];simp only[zbq];generalize W[i]=x at*;have hy3:=g3;generalize pr[i]'(by omega)=y at*
  obtain⟨caps,i1,i2,hcl,e1⟩:∃caps,zt caps= []∧xj caps=false∧zcz caps (wo p x)∧(zu T).call 46 [xq p,.sl (!x.isEmpty) 1 (x.map zx)] [] 0 []=some (.fn 98 caps,[],0,[]):=
   ⟨zcp p x,(zco p x).1,(zco p x).2,call125 p ho x,ziu p ho (!x.isEmpty) 1 x x1 x2 (fun _=>rfl)⟩
  have hul:=zo5 ho x;have e2:=yk2 caps i1 i2 (wo p x) (by omega) hcl;have e3:=ykx y (!((wo p x).map jb).isEmpty) true pr i hy3 (wo p x) (by omega);simp only[xq]at e1;cases h6:zay y (wo p x)
  ·rw[h6]at e3
   simp only[cond_false];unfold zeb;rw[zq];rcases hz with rfl|rfl
   ·simp -implicitDefEqProofs only[go_sem,simprocAttr,xq,h1,h2,hr,h4,e1,i1,i2,e2,e3]
   ·simp -implicitDefEqProofs only[go_sem,simprocAttr,xq,h1,h2,hr,h4,e1,i1,i2,e2,e3]
  ·rw[h6]at e3
   simp only[cond_true];rw[←ih 3 (.inr rfl)]
   conv=>lhs;unfold zeb;rw[zq]
   unfold zeb;rcases hz with rfl|rfl
   ·simp -implicitDefEqProofs only[go_sem,simprocAttr,xq,h1,h2,hr,h4,e1,i1,i2,e2,e3]
   ·simp -implicitDefEqProofs only[go_sem,simprocAttr,xq,h1,h2,hr,h4,e1,i1,i2,e2,e3]
abbrev gd(p:Pk)(pr:List (Int×Int)):List Int:=pr.map fun x=>knP p.v.length (xa p) x
def zik(p:Pk)(n:Int)(pr:List (Int×Int)):Int:=
 if uj n 0 p.c.length=0 then
  (if qo [cond (((fwr n (setsN p.c.length)).length:Int) !=pr.length) 2 0,qo (gd p pr)]=0 then zbq p (fwr n (setsN p.c.length)) pr
   else qo [cond (((fwr n (setsN p.c.length)).length:Int) !=pr.length) 2 0,qo (gd p pr)])
 else uj n 0 p.c.length
theorem c46(p:Pk)(hf:p.fit)(h0:j8 p=0)(hs:Sok p)(hne:setsN p.c.length≠ [])(hpw:(setsN p.c.length).Pairwise (fun a b=>a.length≤b.length))(n:Int)(pr:List (Int×Int))(hpr:pr.length<1000):
  (zu T).call 20 [xq p,.int .i64 n,.sl true 2 (pr.map jb)] [] 0 []=some (.int .i64 (zik p n pr),[],0,[]):=by
 rw[yjz];have ho:=zdi h0;have e1:=c23 p hf;rw[h0]at e1;have e2:=zit n 0 p.c.length;unfold zik;simp only[xq]at e1;cases hr:(uj n 0 p.c.length !=0)
 ·have hr0:uj n 0 p.c.length=0:=by simpa using hr
  rw[if_pos hr0];have e3:=hs.c136;have e4:=yk0 p.c.length hs.len hne;obtain⟨k,k1,k2,k3,k4⟩:=zpi n (setsN p.c.length) hpw;have hlen:=hs.len;have hc:CutN n (setsN p.c.length) k:=⟨k1,k3,k4,by omega,by cases hq:setsN p.c.length with|nil=>exact absurd hq hne|cons a r=>simp⟩;have e5:=yk1 n (setsN p.c.length) k hc;have e6:=xel p ho true pr (by omega);have t1:List.map zx (List.map (fun x=>knP p.v.length (xa p) x) pr)=List.map (fun n=>V.int .i64 n) (gd p pr):=rfl;rw[t1]at e6;have e7:=fun b=>za3 b (gd p pr) (by simp;omega);rw[k2];have hel:∀x∈(setsN p.c.length).take k,x.length<1000000∧gx p x:=fun x hx=>hs.el x (List.mem_of_mem_take hx);have hWl:((setsN p.c.length).take k).length=k:=by rw[List.length_take];omega
  generalize setsN p.c.length=l at*;have e8:=ziq true (cond ((k:Int) !=pr.length) 2 0) (qo (gd p pr));rw[hWl];simp only[xq]at e6;by_cases hE:k=l.length
  ·rw[if_pos hE]at e5
   have e9:∀(kk:V→Prog) (S:xt) (rd wr fr:Nat) (sk:Bool) (K:V→zw→Nat→xt→FP→Option Out) (r0 r2:Row),(callP (zu T) T 39 [.ref 3,.fn 49 [.ptr 1 0 0]] kk).go none [r0,.cells true true 3 [.int .i64 n],r2,.cells false true 39 (l.map jx)] 0 S ⟨rd,wr,fr,sk⟩ K=
     (kk (.ref 3)).go none [r0,.cells true true 3 [.int .i64 n],r2,.cells false true 39 (l.map jx)] 2 S ⟨rd|||bit 3|||bit 1|||bit 3|||bit 1,wr|||bit 3|||bit 1|||bit 3|||bit 1,fr|||bit 1,sk⟩ K:=by
    intro kk S rd wr fr sk K r0 r2;refine(zh4 (x:=3) (y:=1) zfe.1 rfl kk (fun k'=>zgy (by omega) rfl rfl 9996 k') rfl rfl rfl rfl rfl rfl e5 rfl).trans ?_;simp -implicitDefEqProofs only[go_sem,simprocAttr];rfl
   have htk:l.take k=l:=by rw[hE,List.take_length]
   cases hz:(qo [cond ((k:Int) !=pr.length) 2 0,qo (gd p pr)] !=0)
   ·have hz0:qo [cond ((k:Int) !=pr.length) 2 0,qo (gd p pr)]=0:=by simpa using hz
    rw[if_pos hz0,htk]
    have hpl:pr.length=l.length:=by
     have:=(yi0 hz0).1;cases hq:((k:Int) !=pr.length)
     ·simp at hq;omega
     ·rw[hq]at this;cases this
    have hloop:=yui p ho l (by omega) (by rw[htk]at hel;exact hel) (l.map jx) (fun i h=>by rw[List.getElem?_map,List.getElem?_eq_getElem h];rfl) (by simp) pr hpl 0 (by omega) 1 (.inl rfl);rw[List.drop_zero,List.drop_zero]at hloop;unfold zec at hloop;simp only[show((0:Nat):Int)=0 from rfl,xq]at hloop;rw[←hE]at hloop;have hlE:(l.length:Int)=(k:Int):=by rw[hE]
    simp -implicitDefEqProofs only[go_sem,simprocAttr,xq,e1,e2,hr,e3,e4,e9,hlE,e6,e7,jl,e8,hz,hloop]
   ·have hz0:¬qo [cond ((k:Int) !=pr.length) 2 0,qo (gd p pr)]=0:=by simpa using hz
    rw[if_neg hz0];have hlE:(l.length:Int)=(k:Int):=by rw[hE]
    simp -implicitDefEqProofs only[go_sem,simprocAttr,xq,e1,e2,hr,e3,e4,e9,hlE,e6,e7,jl,e8,hz]
  ·rw[if_neg hE]at e5
   have e9:∀(kk:V→Prog) (S:xt) (rd wr fr:Nat) (sk:Bool) (K:V→zw→Nat→xt→FP→Option Out) (r0 r2:Row),(callP (zu T) T 39 [.ref 3,.fn 49 [.ptr 1 0 0]] kk).go none [r0,.cells true true 3 [.int .i64 n],r2,.cells false true 39 (l.map jx)] 0 S ⟨rd,wr,fr,sk⟩ K=
     (kk (.sub 3 0 k)).go none [r0,.cells true true 3 [.int .i64 n],r2,.cells false true 39 (clr l k)] 2 S ⟨rd|||bit 3|||bit 1|||bit 3|||bit 1,wr|||bit 3|||bit 1|||bit 3|||bit 1,fr|||bit 1,sk⟩ K:=by
    intro kk S rd wr fr sk K r0 r2;refine(zh4 (x:=3) (y:=1) zfe.1 rfl kk (fun k'=>zgy (by omega) rfl rfl 9996 k') rfl rfl rfl rfl rfl rfl e5 rfl).trans ?_;simp -implicitDefEqProofs only[go_sem,simprocAttr];rfl
   have hRR:∀i (h:i<(l.take k).length),(clr l k)[i]? =some (jx (l.take k)[i]):=by
    intro i h;rw[hWl]at h;have hil:i<l.length:=by omega
    rw[List.getElem?_append_left (by simp;omega),List.getElem?_take_of_lt h,List.getElem?_map,List.getElem?_eq_getElem hil,List.getElem_take];rfl
   generalize clr l k=R at*;cases hz:(qo [cond ((k:Int) !=pr.length) 2 0,qo (gd p pr)] !=0)
   ·have hz0:qo [cond ((k:Int) !=pr.length) 2 0,qo (gd p pr)]=0:=by simpa using hz
    rw[if_pos hz0]
    have hpl:pr.length=(l.take k).length:=by
     have:=(yi0 hz0).1;rw[hWl];cases hq:((k:Int) !=pr.length)
     ·simp at hq;omega
     ·rw[hq]at this;cases this
    have hloop:=yuh p ho (l.take k) (by omega) hel R hRR pr hpl 0 (by omega) 1 (.inl rfl);rw[List.drop_zero,List.drop_zero]at hloop;unfold zeb at hloop;simp only[show((0:Nat):Int)=0 from rfl,xq,hWl]at hloop;simp -implicitDefEqProofs only[go_sem,simprocAttr,xq,e1,e2,hr,e3,e4,e9,e6,e7,jl,e8,hz,hloop]
   ·have hz0:¬qo [cond ((k:Int) !=pr.length) 2 0,qo (gd p pr)]=0:=by simpa using hz
    rw[if_neg hz0];simp -implicitDefEqProofs only[go_sem,simprocAttr,xq,e1,e2,hr,e3,e4,e9,e6,e7,jl,e8,hz]
 ·have hr0:¬uj n 0 p.c.length=0:=by simpa using hr
  rw[if_neg hr0];simp -implicitDefEqProofs only[go_sem,simprocAttr,xq,e1,e2,hr]
end Go.Den.FaT
namespace Go.Den.FaT
open Go Go.Proofs Go.Den
structure Rq where
 m:Nat
 e:Nat→Int
 l:Nat→Nat→Int
 d:Nat→Int
 n:Int
 o:Nat
structure Rq.ok (x:Rq):Prop where
 m1:1≤x.m
 m3:x.m≤3
 e:∀j,0≤x.e j∧x.e j≤65535
 l:∀k j,0≤x.l k j∧x.l k j≤65535
 d:∀k,0≤x.d k∧x.d k≤255
 n:0≤x.n∧x.n≤255
 o:x.o≤3
namespace Rq
variable (x:Rq)
def ls(k j:Nat):Int:=min (x.e j) (x.l k j)
def lost(rp:List Int)(k j:Nat):Int:=if k<3∧¬(k:Int)∈rp then x.ls k j else 0
def cz(k:Nat):Cz:=⟨[99,97,117,115,101,UInt8.ofNat (48+k)],k,true,(List.range x.m).map fun j=>if k<3 then(max 0 (x.ls k j- x.d k),x.ls k j+x.d k)else(x.n+1,x.n+50)⟩
def row(rp:List Int)(k:Nat):Bool×List Int:=(true,(List.range x.m).map fun j=>x.e j- x.lost rp k j)
def pk(rp:List Int):Pk:=⟨true,(List.range 7).map (x.row rp),x.n,true,(List.range (3+x.o)).map x.cz⟩
end Rq
variable {x:Rq} (hx:x.ok) (rp:List Int)
include hx
theorem zb6(k j:Nat):0≤x.ls k j∧x.ls k j≤x.e j:=by
 have:=hx.e j;have:=hx.l k j;unfold Rq.ls;omega
theorem ze3(k j:Nat):0≤x.lost rp k j∧x.lost rp k j≤x.e j:=by
 have h1:=zb6 hx k j;have:=hx.e j;unfold Rq.lost;split<;>omega
omit hx in
theorem zc6:xa (x.pk rp)=x.m:=by simp[xa,Rq.pk,Rq.row,List.range_succ]
omit hx in
theorem xb3(j:Nat)(h:j<x.m):col (x.pk rp) j=(List.range 7).map fun k=>x.e j- x.lost rp k j:=by
 unfold col Rq.pk;simp only[List.map_map];apply List.map_congr_left;intro k _;simp[Rq.row,List.getD_eq_getElem?_getD,h]
theorem ytr(j:Nat)(h:j<x.m):med (col (x.pk rp) j)=x.e j:=by
 rw[xb3 rp j h];generalize hl:(List.range 7).map (fun k=>x.e j- x.lost rp k j)=l;have h7:l.length=7:=by rw[←hl];simp
 have hp:=zpg l;have hs:=yoi l;have h37:3<(ud l).length:=by rw[hp.length_eq];omega
 have hle:∀y∈ud l,y≤x.e j:=by
  intro y hy;have hy:=hp.subset hy;rw[←hl]at hy;obtain⟨k,_,rfl⟩:=List.mem_map.1 hy;have:=ze3 hx rp k j;omega
 have h1:=yke hle
 have h2:jd (ud l) (x.e j)≤3:=by
  have e:jd (ud l) (x.e j)=jd l (x.e j):=hp.countP_eq _;rw[e,←hl];have z:∀k,3≤k→x.lost rp k j=0:=fun k hk=>by unfold Rq.lost;rw[if_neg (by omega)]
  simp only[jd,List.range_succ,List.range_zero,List.nil_append,List.map_append,List.map_cons,List.map_nil,List.cons_append,List.countP_cons,List.countP_nil,z 3 (by omega),z 4 (by omega),z 5 (by omega),z 6 (by omega)];have b0:∀b:Bool,(if b=true then 1 else 0:Nat)≤1:=by decide
  have q:(decide (x.e j- 0<x.e j))=false:=by simp
  simp only[q];have:=b0 (decide (x.e j- x.lost rp 0 j<x.e j));have:=b0 (decide (x.e j- x.lost rp 1 j<x.e j));have:=b0 (decide (x.e j- x.lost rp 2 j<x.e j));simp only[Bool.false_eq_true,if_false];omega
 have h3:=(yts hs h37 (x.e j)).1 ⟨h2,by rw[h1,hp.length_eq];omega⟩;unfold med;rw[h7,List.getD_eq_getElem?_getD,show(7- 1)/2=3 from rfl,List.getElem?_eq_getElem h37,h3];rfl
theorem ytp:q7 (x.pk rp)=(List.range x.m).map x.e:=by
 unfold q7;rw[zc6];apply List.map_congr_left;intro j hj;exact ytr hx rp j (by simpa using hj)
omit hx in
theorem w9{a:Int}(h: -1000000≤a∧a≤1000000):IntKind.i64.wrap a=a:=wrap64 (by omega) (by omega)
theorem zpu(k:Nat):gk (q7 (x.pk rp)) (x.row rp k).2=(List.range x.m).map fun j=>x.lost rp k j:=by
 rw[ytp hx];unfold gk Rq.row;simp only[List.zipWith_map_left,List.zipWith_map_right,List.zipWith_self];apply List.map_congr_left;intro j _;have:=ze3 hx rp k j;have:=hx.e j;rw[show x.e j- (x.e j- x.lost rp k j)=x.lost rp k j by omega];exact w9 (by omega)
theorem zpx:(jv (x.pk rp)).map (·.2)=(List.range 7).map fun k=>(List.range x.m).map fun j=>x.lost rp k j:=by
 unfold jv;simp only[Rq.pk,List.map_map];apply List.map_congr_left;intro k _;exact zpu hx rp k
omit hx in
theorem zpw{nz:Int}{i:Nat}:∀(r:List Int) (k:Nat) (l:List (Int×Int)),r.length=l.length→(rowP nz i k r l= []↔∀a (h:a<r.length) (h':a<l.length),bdB nz r[a] l[a]=false):=by
 intro r
 induction r with
 |nil=>intro k l h;cases l with
  |nil=>simp[rowP]
  |cons _ _=>simp at h
 |cons n r ih=>
  intro k l h;cases l with
  |nil=>simp at h
  |cons y l=>
   have h:r.length=l.length:=by simpa using h
   simp only[rowP];cases hb:bdB nz n y
   ·simp only[cond_false]
    rw[ih (k+1) l h];constructor
    ·intro H a h1 h2
     cases a with
     |zero=>exact hb
     |succ a=>exact H a (by simpa using h1) (by simpa using h2)
    ·intro H a h1 h2
     exact H (a+1) (by simpa using h1) (by simpa using h2)
   ·simp only[cond_true]
    constructor
    ·intro H;cases H
    ·intro H;have:=H 0 (by simp) (by simp);simp[hb]at this
omit hx in
theorem xft{nz:Int}:∀(R:List (List Int)) (i:Nat) (L:List (List (Int×Int))),R.length=L.length→(allP nz i R L= []↔∀a (h:a<R.length) (h':a<L.length),rowP nz (i+a) 0 R[a] L[a]= []):=by
 intro R
 induction R with
 |nil=>intro i l h;cases l with
  |nil=>simp[allP]
  |cons _ _=>simp at h
 |cons n r ih=>
  intro i l h;cases l with
  |nil=>simp at h
  |cons y l=>
   have h:r.length=l.length:=by simpa using h
   simp only[allP,List.append_eq_nil_iff];rw[ih (i+1) l h];constructor
   ·intro⟨H0,H⟩ a h1 h2
    cases a with
    |zero=>exact H0
    |succ a=>have:=H a (by simpa using h1) (by simpa using h2);rw[show i+(a+1)=i+1+a by omega];exact this
   ·intro H
    refine⟨H 0 (by simp) (by simp),fun a h1 h2=> ?_⟩;have:=H (a+1) (by simpa using h1) (by simpa using h2);rw[show i+(a+1)=i+1+a by omega]at this;exact this
theorem zo4(st:List Int):wo (x.pk rp) st= []↔∀i j,i<7→j<x.m→bdB x.n (x.lost rp i j) (lsA (x.pk rp) st i j)=false:=by
 unfold wo;rw[zpx hx];have hv:(x.pk rp).v.length=7:=by simp[Rq.pk]
 rw[xft _ _ _ (by simp[ub,hv])];constructor
 ·intro H i j hi hj
  have h1:=H i (by simpa using hi) (by simpa[ub,hv]using hi);rw[zpw _ _ _ (by simp[ub,lsR,zc6])]at h1;have h2:=h1 j (by simpa using hj) (by simp[ub,lsR,zc6];exact hj);simp[ub,lsR]at h2;exact h2
 ·intro H a h1 h2
  rw[zpw _ _ _ (by simp[ub,lsR,zc6])];intro j h3 h4;have h5:=H a j (by simpa using h1) (by simpa using h3);simp[ub,lsR];exact h5
omit hx in
theorem xdu{i:Int}(h:0≤i∧i<((3+x.o:Nat):Int)):ua (x.pk rp) i=x.cz i.toNat:=by
 unfold ua Rq.pk;have:i.toNat<3+x.o:=by omega
 simp[this]
omit hx in
theorem yua(i j:Nat):∀(st:List Int),st.Nodup→(∀k∈st,0≤k)→∀y,lossF i j (st.map fun k=>cPr (x.cz k.toNat)) y=if(i:Int)∈st then q9 y ((x.cz i).l.getD j (0,0))else y:=by
 intro st
 induction st with
 |nil=>intro _ _ y;simp[lossF]
 |cons k st ih=>
  intro hn hp y;rw[List.nodup_cons]at hn;have hk:=hp k (List.mem_cons_self ..);simp only[List.map_cons,yub];rw[ih hn.2 fun z hz=>hp z (List.mem_cons_of_mem _ hz)];have ec:(cPr (x.cz k.toNat)).1=k.toNat:=Int.toNat_natCast _;by_cases h:k.toNat=i
  ·have hki:k=(i:Int):=by omega
   rw[ec,if_pos h,if_neg (by rw[←hki];exact hn.1),if_pos (by rw[hki];exact List.mem_cons_self ..),h];rfl
  ·have hki:¬(i:Int)=k:=by omega
   rw[ec,if_neg h];simp[hki]
theorem yia(st:List Int)(hn:st.Nodup)(hr:∀k∈st,0≤k∧k<((3+x.o:Nat):Int))(i j:Nat)(hj:j<x.m):
  lsA (x.pk rp) st i j=if(i:Int)∈st then(if i<3 then(max 0 (x.ls i j- x.d i),x.ls i j+x.d i)else(x.n+1,x.n+50))else(0,0):=by
 unfold lsA csq;rw[List.map_congr_left (g:=fun k=>cPr (x.cz k.toNat)) fun k hk=>by rw[xdu rp (hr k hk)],yua i j st hn fun k hk=>(hr k hk).1];split
 ·simp only[Rq.cz,List.getD_eq_getElem?_getD,List.getElem?_map,List.getElem?_range hj,Option.map_some,Option.getD_some]
  have h1:=zb6 hx i j;have h2:=hx.e j;have h3:=hx.d i;have h4:=hx.n;split
  ·simp only[q9];rw[w9 (by omega),w9 (by omega)];simp
  ·simp only[q9];rw[w9 (by omega),w9 (by omega)];simp
 ·rfl
def jq(x:Rq)(rp:List Int)(k:Nat):Bool:=(List.range x.m).any fun j=>decide (x.n<x.lost rp k j)
def nd(x:Rq)(rp:List Int):List Int:=((List.range 7).filter (jq x rp)).map Int.ofNat
omit hx in
theorem zmo(k:Nat):jq x rp k=true↔∃j,j<x.m∧x.n<x.lost rp k j:=by simp[jq]
theorem zhk(k:Nat)(h:jq x rp k=true):k<3∧¬(k:Int)∈rp:=by
 obtain⟨j,_,h⟩:=(zmo rp k).1 h;have:=hx.n;unfold Rq.lost at h;split at h
 ·assumption
 ·omega
theorem zmn:nd x rp=((List.range 3).filter (jq x rp)).map Int.ofNat:=by
 have z:∀k,3≤k→jq x rp k=false:=fun k hk=>by
  cases h:jq x rp k
  ·rfl
  ·have:=(zhk hx rp k h).1;omega
 unfold nd;simp only[List.range_succ,List.range_zero,List.nil_append,List.filter_append,List.filter_cons,List.filter_nil,z 3 (by omega),z 4 (by omega),z 5 (by omega),z 6 (by omega)];simp
omit hx in
theorem zhp(k:Nat):(k:Int)∈nd x rp↔k<7∧jq x rp k=true:=by
 unfold nd;constructor
 ·intro h
  obtain⟨a,ha,e⟩:=List.mem_map.1 h;have:a=k:=by have:(a:Int)=k:=e;omega
  subst this;simpa using ha
 ·intro h
  exact List.mem_map.2 ⟨k,by simpa using h,rfl⟩
def zmi(x:Rq)(st:List Int):Prop:=st.Nodup∧∀k∈st,0≤k∧k<((3+x.o:Nat):Int)
theorem ytd(h:zmi x (nd x rp)):wo (x.pk rp) (nd x rp)= []:=by
 rw[zo4 hx];intro i j hi hj;rw[yia hx rp _ h.1 h.2 i j hj];have h1:=zb6 hx i j;have h2:=hx.e j;have h3:=hx.d i;have h4:=hx.n;have h5:=ze3 hx rp i j;by_cases hm:(i:Int)∈nd x rp
 ·obtain⟨i3,ir⟩:=zhk hx rp i ((zhp rp i).1 hm).2
  have hl:x.lost rp i j=x.ls i j:=by unfold Rq.lost;rw[if_pos ⟨i3,ir⟩]
  rw[if_pos hm,if_pos i3,hl];simp only[bdB];rw[w9 (by omega),w9 (by omega)];simp;omega
 ·have hl:¬x.n<x.lost rp i j:=fun hc=>hm ((zhp rp i).2 ⟨hi,(zmo rp i).2 ⟨j,hj,hc⟩⟩)
  rw[if_neg hm];simp only[bdB];rw[w9 (by omega),w9 (by omega)];simp;omega
theorem yjb(st:List Int)(h:zmi x st)(hu:wo (x.pk rp) st= []):∀k∈nd x rp,k∈st:=by
 rw[zo4 hx]at hu;intro k hk;obtain⟨i,hi,rfl⟩:=List.mem_map.1 hk;have hi:i<7∧jq x rp i=true:=by simpa using hi
 obtain⟨j,hj,hl⟩:=(zmo rp i).1 hi.2;have hu:=hu i j hi.1 hj;rw[yia hx rp _ h.1 h.2 i j hj]at hu;by_cases hm:(i:Int)∈st
 ·exact hm
 ·exfalso
  rw[if_neg hm]at hu;have h2:=hx.e j;have h4:=hx.n;have h5:=ze3 hx rp i j;simp only[bdB]at hu;rw[w9 (by omega),w9 (by omega)]at hu;simp at hu;omega
end Go.Den.FaT
namespace Go.Den.FaT
open Go Go.Proofs Go.Den
def zkm(a b:List Int):Bool:=a.all fun k=>b.any fun j=>j==k
def zie:List Int→Bool
 | []=>true
 |k::l=> !(l.any fun j=>j==k)&&zie l
def zhs:List (List Int)→Bool
 | []=>true
 |s::l=>(l.all fun t=>Nat.ble s.length t.length&& !(s==t))&&zhs l
def zcn(n:Nat):Bool:=
 ((setsN n).all fun s=>zie s&&s.all fun k=>decide (0≤k)&&decide (k<(n:Int)))&&zhs (setsN n)&&
 ((setsN n).all fun a=>(setsN n).all fun b=> !(zkm a b)||(a==b)||Nat.blt a.length b.length)&&Nat.ble (setsN n).length 64&&((setsN n).all fun s=>Nat.ble s.length 6)
theorem xc3:zcn 3=true:=by kernel_rfl
theorem xc2:zcn 4=true:=by kernel_rfl
theorem xc1:zcn 5=true:=by kernel_rfl
theorem xc0:zcn 6=true:=by kernel_rfl
theorem zcm(o:Nat)(h:o≤3):zcn (3+o)=true:=by
 rcases(by omega:o=0∨o=1∨o=2∨o=3)with rfl|rfl|rfl|rfl
 ·exact xc3
 ·exact xc2
 ·exact xc1
 ·exact xc0
theorem xbl:∀l:List Int,zie l=true→l.Nodup:=by
 intro l
 induction l with
 |nil=>intro _;exact List.nodup_nil
 |cons k l ih=>
  intro h;simp only[zie,Bool.and_eq_true,Bool.not_eq_true']at h;refine List.nodup_cons.2 ⟨fun hk=> ?_,ih h.2⟩;have:(l.any fun j=>j==k)=true:=List.any_eq_true.2 ⟨k,hk,by simp⟩;rw[this]at h;exact absurd h.1 (by simp)
theorem yno(a b:List Int):zkm a b=true↔∀k∈a,k∈b:=by
 unfold zkm;rw[List.all_eq_true];constructor
 ·intro h k hk
  obtain⟨j,hj,e⟩:=List.any_eq_true.1 (h k hk);have:j=k:=by simpa using e
  exact this▸hj
 ·intro h k hk
  exact List.any_eq_true.2 ⟨k,h k hk,by simp⟩
theorem yvv:∀l:List (List Int),zhs l=true→l.Pairwise fun a b=>a.length≤b.length∧a≠b:=by
 intro l
 induction l with
 |nil=>intro _;exact List.Pairwise.nil
 |cons s l ih=>
  intro h;simp only[zhs,Bool.and_eq_true,List.all_eq_true]at h;exact List.Pairwise.cons (fun t ht=>⟨Nat.le_of_ble_eq_true (h.1 t ht).1,by simpa using (h.1 t ht).2⟩) (ih h.2)
structure SetsOk (n:Nat):Prop where
 nod:∀s∈setsN n,s.Nodup
 el:∀s∈setsN n,∀k∈s,0≤k∧k<(n:Int)
 sorted:(setsN n).Pairwise fun a b=>a.length≤b.length∧a≠b
 sub:∀a∈setsN n,∀b∈setsN n,(∀k∈a,k∈b)→a=b∨a.length<b.length
 len:(setsN n).length≤64
 l6:∀s∈setsN n,s.length≤6
theorem zbz{n:Nat}(h:zcn n=true):SetsOk n:=by
 unfold zcn at h;simp only[Bool.and_eq_true]at h;obtain⟨⟨⟨⟨h1,h2⟩,h3⟩,h4⟩,h5⟩:=h;rw[List.all_eq_true]at h1 h3 h5;refine⟨fun s hs=> ?_,fun s hs k hk=> ?_,yvv _ h2,fun a ha b hb hab=> ?_,Nat.le_of_ble_eq_true h4,fun s hs=>Nat.le_of_ble_eq_true (h5 s hs)⟩
 ·have:=h1 s hs;rw[Bool.and_eq_true]at this;exact xbl s this.1
 ·have:=h1 s hs;rw[Bool.and_eq_true]at this
  have:=List.all_eq_true.1 this.2 k hk;simpa using this
 ·have:=List.all_eq_true.1 (h3 a ha) b hb
  rw[(yno a b).2 hab]at this;rcases(by simpa using this:a=b∨Nat.blt a.length b.length=true)with h|h
  ·exact .inl h
  ·exact .inr (Nat.le_of_ble_eq_true h)
def zb5(n:Nat):Bool:= [false,true].all fun a=> [false,true].all fun b=> [false,true].all fun c=>
 (setsN n).any fun s=>s==((bif a then [0]else [])++((bif b then [1]else [])++(bif c then [2]else [])):List Int)
theorem yto:zb5 3=true:=by kernel_rfl
theorem ytn:zb5 4=true:=by kernel_rfl
theorem ytm:zb5 5=true:=by kernel_rfl
theorem ytl:zb5 6=true:=by kernel_rfl
theorem yh4(o:Nat)(h:o≤3):zb5 (3+o)=true:=by
 rcases(by omega:o=0∨o=1∨o=2∨o=3)with rfl|rfl|rfl|rfl
 ·exact yto
 ·exact ytn
 ·exact ytm
 ·exact ytl
variable {x:Rq} (hx:x.ok) (rp:List Int)
include hx
theorem yh2:nd x rp=((bif jq x rp 0 then [0]else [])++((bif jq x rp 1 then [1]else [])++(bif jq x rp 2 then [2]else [])):List Int):=by
 rw[zmn hx];cases h0:jq x rp 0<;>cases h1:jq x rp 1<;>cases h2:jq x rp 2<;>simp[List.range_succ,List.filter_append,h0,h1,h2]<;>rfl
theorem zml:nd x rp∈setsN (3+x.o):=by
 rw[yh2 hx];have h:=yh4 x.o hx.o;unfold zb5 at h;rw[List.all_eq_true]at h;have b2:∀b:Bool,b∈ [false,true]:=by decide
 have h:=List.all_eq_true.1 (List.all_eq_true.1 (h (jq x rp 0) (b2 _)) (jq x rp 1) (b2 _)) (jq x rp 2) (b2 _);obtain⟨s,hs,e⟩:=List.any_eq_true.1 h;have e:=eq_of_beq e;rw[e]at hs;exact hs
omit hx in
theorem pk_c:(x.pk rp).c.length=3+x.o:=by simp[Rq.pk]
theorem zmh{s:List Int}(h:s∈setsN (3+x.o)):zmi x s:=by
 have k:=zbz (zcm x.o hx.o);exact⟨k.nod s h,k.el s h⟩
omit hx in
theorem yx4(d:List Int)(P:List Int→Bool)(hP:P d=true):∀L:List (List Int),L.Pairwise (fun a b=>a.length≤b.length∧a≠b)→d∈L→(∀s∈L,P s=true→d=s∨d.length<s.length)→
  ∃r,L.filter P=d::r∧∀s∈r,s∈L∧P s=true∧d.length<s.length:=by
 intro L
 induction L with
 |nil=>intro _ h _;cases h
 |cons s l ih=>
  intro hp hm hs;rw[List.pairwise_cons]at hp;by_cases hd:d=s
  ·subst hd
   refine⟨l.filter P,by simp[hP],fun t ht=> ?_⟩;rw[List.mem_filter]at ht;refine⟨List.mem_cons_of_mem _ ht.1,ht.2,?_⟩;rcases hs t (List.mem_cons_of_mem _ ht.1) ht.2 with h|h
   ·exact absurd h (hp.1 t ht.1).2
   ·exact h
  ·have hl:d∈l:=by
    rcases List.mem_cons.1 hm with h|h
    ·exact absurd h hd
    ·exact h
   have hPs:P s=false:=by
    cases h:P s
    ·rfl
    ·rcases hs s (List.mem_cons_self ..) h with h1|h1
     ·exact absurd h1 hd
     ·have:=(hp.1 d hl).1;omega
   obtain⟨r,h1,h2⟩:=ih hp.2 hl fun t ht=>hs t (List.mem_cons_of_mem _ ht);exact⟨r,by simp[hPs,h1],fun t ht=>⟨List.mem_cons_of_mem _ (h2 t ht).1,(h2 t ht).2⟩⟩
theorem zfg:∃r,exA (x.pk rp)=nd x rp::r∧(∀s∈r,(nd x rp).length<s.length∧∀k∈nd x rp,k∈s)∧(exA (x.pk rp)).length≤64:=by
 have k:=zbz (zcm x.o hx.o);have hm:=zml hx rp
 have hle:(exA (x.pk rp)).length≤64:=by
  unfold exA expl;rw[pk_c];exact Nat.le_trans (List.length_filter_le _ _) k.len
 have hsub:∀s∈setsN (3+x.o),(wo (x.pk rp) s).isEmpty=true→∀k∈nd x rp,k∈s:=fun s hs h=>yjb hx rp s (zmh hx hs) (List.isEmpty_iff.1 h)
 obtain⟨r,h1,h2⟩:=yx4 (nd x rp) (fun st=>(wo (x.pk rp) st).isEmpty) (List.isEmpty_iff.2 (ytd hx rp (zmh hx hm))) _ k.sorted hm
  fun s hs h=>k.sub _ hm _ hs (hsub s hs h)
 refine⟨r,?_,fun s hs=>⟨(h2 s hs).2.2,hsub s (h2 s hs).1 (h2 s hs).2.1⟩,hle⟩;unfold exA expl;rw[pk_c];exact h1
theorem xbx:Cut (nd x rp) (exA (x.pk rp)) 1:=by
 obtain⟨r,h1,h2,h3⟩:=zfg hx rp;refine⟨by rw[h1];rfl,by rw[h1];simp,fun i h hi=> ?_,fun i h hi=> ?_,by omega⟩
 ·have:i=0:=by omega
  subst this;simp[h1]
 ·simp only[h1]
  obtain⟨m,rfl⟩:∃m,i=m+1:=⟨i- 1,by omega⟩;have hm:m<r.length:=by rw[h1]at h;simpa using h
  have:=(h2 r[m] (List.getElem_mem hm)).1;simpa using this
end Go.Den.FaT
namespace Go.Den.FaT
open Go Go.Proofs Go.Den
theorem zar{n a b:Int}(h:a≤n∧n≤b):uj n a b=0:=by rw[zdc,if_neg (by omega)]
theorem ys2:∀k:_root_.Fin 7,zb4 [99,97,117,115,101,UInt8.ofNat (48+k)]=true:=by decide
theorem ys3:∀k j:_root_.Fin 7,UInt8.ofNat (48+k.val)=UInt8.ofNat (48+j.val)→k=j:=by decide
theorem xbz(l:List Cz):∀(r:List Cz) (i:Nat) (y:Int),y∈zah l i r→∃k,∃h:k<r.length,y=csE l (i+k) r[k]:=by
 intro r
 induction r with
 |nil=>intro i y h;cases h
 |cons m r ih=>
  intro i y h;rcases List.mem_cons.1 h with rfl|h
  ·exact⟨0,by simp,rfl⟩
  ·obtain⟨k,hk,e⟩:=ih (i+1) y h
   exact⟨k+1,by simpa using hk,by rw[e];simp only[List.getElem_cons_succ];rw[show i+1+k=i+(k+1) by omega]⟩
variable {x:Rq} (hx:x.ok) (rp:List Int)
include hx
theorem zdv:(x.pk rp).fit:=by
 have:=hx.m3;have:=hx.o;refine⟨by simp[Rq.pk],fun r hr=> ?_,by simp[Rq.pk];omega,fun c hc=> ?_⟩
 ·obtain⟨k,_,rfl⟩:=List.mem_map.1 hr
  simp[Rq.row];omega
 ·obtain⟨k,_,rfl⟩:=List.mem_map.1 hc
  simp[Rq.cz];omega
omit hx in
theorem zkl{n:Int}(h:0<n∧n≤8):ui n 8=0:=by
 unfold ui;have h1:(n==0)=false:=by simp;omega
 have h2:decide (8<n)=false:=by simp;omega
 rw[h1,h2];rfl
theorem xcs(k:Nat)(h:k<7):ckC (x.cz k)=0:=by
 have:=hx.m3;have:=hx.m1;unfold ckC;rw[qw];intro y hy;simp only[List.mem_cons,List.not_mem_nil,or_false]at hy;rcases hy with rfl|rfl|rfl
 ·exact zar (by simp only[Rq.cz];omega)
 ·exact zkl (by simp only[Rq.cz,List.length_map,List.length_range];omega)
 ·rw[qw]
  intro z hz;obtain⟨v,hv,rfl⟩:=List.mem_map.1 hz;simp only[Rq.cz]at hv;obtain⟨j,_,rfl⟩:=List.mem_map.1 hv;have h1:=zb6 hx k j;have h2:=hx.e j;have h3:=hx.d k;have h4:=hx.n;unfold g7 uy;split
  ·rw[zar (by omega),zar (by omega),show decide (x.ls k j+x.d k<max 0 (x.ls k j- x.d k))=false by simp;omega];rfl
  ·rw[zar (by omega),zar (by omega),show decide (x.n+50<x.n+1)=false by simp];rfl
theorem zd0:j8 (x.pk rp)=0:=by
 have hm3:=hx.m3;have hm1:=hx.m1;have ho:=hx.o;have hn:=hx.n;have hv:(x.pk rp).v.length=7:=by simp[Rq.pk]
 have hs:((x.pk rp).v[0]?.getD (false,[])).2.length=x.m:=zc6 rp;unfold j8;rw[if_pos (zkl (by rw[hv];omega)),qw];intro y hy;simp only[List.mem_cons,List.not_mem_nil,or_false,hs]at hy;rcases hy with rfl|rfl|rfl|rfl
 ·rw[qw]
  intro z hz;obtain⟨r,hr,rfl⟩:=List.mem_map.1 hz;obtain⟨k,hk,rfl⟩:=List.mem_map.1 hr;have hl:(x.row rp k).2.length=x.m:=by simp[Rq.row]
  unfold g8;rw[qw];intro w hw;simp only[List.mem_cons,List.not_mem_nil,or_false,hl]at hw;rcases hw with rfl|rfl|rfl
  ·exact zkl (by omega)
  ·simp
  ·rw[qw]
   intro u hu;obtain⟨q,hq,rfl⟩:=List.mem_map.1 hu;obtain⟨j,_,rfl⟩:=List.mem_map.1 hq;have:=ze3 hx rp k j;have:=hx.e j;exact zar (by omega)
 ·exact zar (by simp only[Rq.pk];omega)
 ·unfold za1
  have hc:(x.pk rp).c=(List.range (3+x.o)).map x.cz:=rfl;rw[hc,if_neg (by simp;omega),qw];intro z hz;obtain⟨k,hk,rfl⟩:=xbz _ _ _ _ hz;have hk':k<3+x.o:=by simpa using hk
  have hg:((List.range (3+x.o)).map x.cz)[k]=x.cz k:=by simp
  rw[hg,Nat.zero_add];unfold csE;have h1:zb4 (x.cz k).n=true:=ys2 ⟨k,by omega⟩
  have h2:y7 ((List.range (3+x.o)).map x.cz) k (x.cz k)=false:=by
   unfold y7;rw[List.any_eq_false];intro a ha;rw[←List.map_take,List.take_range]at ha;obtain⟨j,hj,rfl⟩:=List.mem_map.1 ha;have hj:j<k:=by have:=List.mem_range.1 hj;omega
   intro e;have e:(x.cz j).n=(x.cz k).n:=by simpa using e
   simp only[Rq.cz,List.cons.injEq,true_and,and_true]at e;have:=ys3 ⟨j,by omega⟩ ⟨k,by omega⟩ e;simp at this;omega
  rw[h1,h2,xcs hx k (by omega)];rfl
 ·rw[qw]
  intro z hz;obtain⟨c,hc,rfl⟩:=List.mem_map.1 hz;obtain⟨k,hk,rfl⟩:=List.mem_map.1 hc;have hk:k<3+x.o:=by simpa using hk
  have hl:(x.cz k).l.length=x.m:=by simp[Rq.cz]
  unfold g9;rw[hl,hv,show decide (((7:Nat):Int)≤(x.cz k).c)=false by simp[Rq.cz];omega];simp[qo]
theorem zeg:Sok (x.pk rp):=yol (by rw[pk_c];have:=hx.o;omega)
theorem zmy:(zu T).call 15 [xq (x.pk rp)] [] 0 []=some (.tup [.sl true 1 [jx (nd x rp)],.int .i64 0],[],0,[]):=by
 have h:=c36 (x.pk rp) (zdv hx rp) (zd0 hx rp) (zeg hx rp) _ _ (xbx hx rp);obtain⟨r,h1,_⟩:=zfg hx rp;rw[h,h1];rfl
end Go.Den.FaT
namespace Go.Den.FaT
open Go Go.Proofs Go.Den
variable {x:Rq} (hx:x.ok) (rp:List Int)
include hx
theorem ypv:(zu T).call 16 [xq (x.pk rp)] [] 0 []=some (.tup [.sl true 1 ((List.range 7).map fun k=> .sl true 1 (((List.range x.m).map fun j=>x.lost rp k j).map zx)),.int .i64 0],[],0,[]):=by
 have hm1:=hx.m1;rw[c19 _ (zdv hx rp),if_pos (zd0 hx rp)]
 have e:(jv (x.pk rp)).map rwV=(List.range 7).map fun k=>V.sl true 1 (((List.range x.m).map fun j=>x.lost rp k j).map zx):=by
  unfold jv;simp only[Rq.pk,List.map_map];apply List.map_congr_left;intro k _;have h:=zpu hx rp k;show rwV (gh (q7 (x.pk rp)) (x.row rp k))=_;unfold gh rwV;simp only;rw[h]
  have:(List.map zx (List.map (fun j=>x.lost rp k j) (List.range x.m))).isEmpty=false:=by
   rw[Bool.eq_false_iff];intro hc;have:=congrArg List.length (List.isEmpty_iff.1 hc);simp at this;omega
  rw[this,List.map_map];rfl
 rw[e];rfl
def ndN(x:Rq)(rp:List Int):List (List UInt8):=(nd x rp).map fun k=>(x.cz k.toNat).n
omit hx in
theorem yox(L:List (List Int))(n:Nat):∀(m a:Nat),yq (fun a b=>a==b) L a ((List.range' a m).map x.cz)=((List.range' a m).filter fun k:Nat=>((cnt (k:Int) L:Int)==(L.length:Int))).map x.cz:=by
 intro m
 induction m with
 |zero=>intro a;rfl
 |succ m ih=>
  intro a;simp only[List.range'_succ,List.map_cons,yq];rw[ih (a+1),List.filter_cons];cases h:((cnt a L:Int)==(L.length:Int))
  ·simp
  ·simp
omit hx in
theorem xb6(k:Int)(L:List (List Int)):((cnt k L:Int)==(L.length:Int))=L.all (vi k):=by
 rw[Bool.eq_iff_iff,List.all_eq_true];unfold cnt;rw[←List.countP_eq_length];rw[beq_iff_eq];omega
theorem ynm:zc8 (fun a b=>a==b) (exA (x.pk rp)) (x.pk rp).c=ndN x rp:=by
 obtain⟨r,h1,h2,_⟩:=zfg hx rp;have hc:(x.pk rp).c=(List.range' 0 (3+x.o)).map x.cz:=by rw[←List.range_eq_range'];rfl
 unfold zc8;rw[hc,yox _ 0]
 have hf:((List.range' 0 (3+x.o)).filter fun k:Nat=>((cnt (k:Int) (exA (x.pk rp)):Int)==((exA (x.pk rp)).length:Int)))=(List.range 3).filter (jq x rp):=by
  have hp:∀k:Nat,((cnt (k:Int) (exA (x.pk rp)):Int)==((exA (x.pk rp)).length:Int))=jq x rp k:=by
   intro k;rw[xb6,h1];rw[Bool.eq_iff_iff,List.all_eq_true]
   have hh:∀(s:List Int),vi (k:Int) s=true↔(k:Int)∈s:=fun s=>by
    unfold vi;rw[List.any_eq_true];constructor
    ·rintro⟨a,ha,e⟩
     have:a=k:=by simpa using e
     exact this▸ha
    ·intro h;exact⟨_,h,by simp⟩
   constructor
   ·intro H
    exact((zhp rp k).1 ((hh _).1 (H _ (List.mem_cons_self ..)))).2
   ·intro H s hs
    have hk:(k:Int)∈nd x rp:=(zhp rp k).2 ⟨by have:=(zhk hx rp k H).1;omega,H⟩;rw[hh];rcases List.mem_cons.1 hs with rfl|hs
    ·exact hk
    ·exact(h2 s hs).2 _ hk
  rw[List.filter_congr fun k _=>hp k,←List.range_eq_range',Nat.add_comm 3 x.o]
  have z:∀k,3≤k→jq x rp k=false:=fun k hk=>by
   cases h:jq x rp k
   ·rfl
   ·have:=(zhk hx rp k h).1;omega
  have:∀o,(List.range (o+3)).filter (jq x rp)=(List.range 3).filter (jq x rp):=by
   intro o
   induction o with
   |zero=>rfl
   |succ o ih=>rw[show o+1+3=(o+3)+1 by omega,List.range_succ,List.filter_append,ih];simp[z (o+3) (by omega)]
  exact this x.o
 rw[hf];unfold ndN;rw[zmn hx];simp only[List.map_map];apply List.map_congr_left;intro k _;simp
theorem xc6:(zu T).call 17 [xq (x.pk rp)] [] 0 []=some (.tup [.sl (!(nd x rp).isEmpty) 1 ((ndN x rp).map gv),.int .i64 0],[],0,[]):=by
 obtain⟨r,h1,h2,_⟩:=zfg hx rp;have h:=xen 44 _ yw3 (x.pk rp) (zdv hx rp) (zd0 hx rp) (zeg hx rp) (by rw[h1];simp);rw[ynm hx]at h;have e:((ndN x rp).map gv).isEmpty=(nd x rp).isEmpty:=by unfold ndN;cases nd x rp<;>rfl
 rw[e]at h;exact c37 _ (.bool true) _ _ _ _ h (.inl rfl)
end Go.Den.FaT
namespace Go.Den.FaT
open Go Go.Proofs Go.Den
theorem ypg{nz:Int}{i:Nat}{y:Int×Int}:∀(r:List Int) (k:Nat) (l:List (Int×Int)),y∈rowP nz i k r l→y.1=i∧(k:Int)≤y.2∧y.2<k+r.length:=by
 intro r
 induction r with
 |nil=>intro k l h;simp[rowP]at h
 |cons n r ih=>
  intro k l h;cases l with
  |nil=>simp[rowP]at h
  |cons v l=>
   simp only[rowP]at h;have ih:=ih (k+1) l;cases hb:bdB nz n v
   ·rw[hb,cond_false]at h
    have:=ih h;simp only[List.length_cons];omega
   ·rw[hb,cond_true]at h
    rcases List.mem_cons.1 h with rfl|h
    ·exact⟨rfl,Int.le_refl _,by show(k:Int)<_;simp only[List.length_cons];omega⟩
    ·have:=ih h
     simp only[List.length_cons];omega
theorem xfu{nz:Int}{w:Nat}{y:Int×Int}:∀(R:List (List Int)) (i:Nat) (L:List (List (Int×Int))),(∀r∈R,r.length≤w)→y∈allP nz i R L→(i:Int)≤y.1∧y.1<i+R.length∧0≤y.2∧y.2<w:=by
 intro R
 induction R with
 |nil=>intro i L _ h;simp[allP]at h
 |cons r R ih=>
  intro i L hw h;cases L with
  |nil=>simp[allP]at h
  |cons l L=>
   simp only[allP,List.mem_append]at h;rcases h with h|h
   ·have:=ypg _ _ _ h
    have:=hw r (List.mem_cons_self ..);simp only[List.length_cons];omega
   ·have:=ih (i+1) L (fun r hr=>hw r (List.mem_cons_of_mem _ hr)) h
    simp only[List.length_cons];omega
def hdQ(p:Pk)(s:List Int):Int×Int:=((wo p s)[0]?).getD (0,0)
theorem yrn(p:Pk)(k:Nat):∀(L:List (List Int)),L.Pairwise (fun a b=>a.length≤b.length)→(∀s∈L,(s.length:Int)<k→wo p s≠ [])→pfL p k L=(fwr k L).map (hdQ p):=by
 intro L
 induction L with
 |nil=>intro _ _;rfl
 |cons s r ih=>
  intro hp hn;obtain⟨ha,hp2⟩:=List.pairwise_cons.1 hp;rw[show pfL p k (s::r)=bif decide ((k:Int)≤s.length)then []else(wo p s).take 1++pfL p k r from rfl,yiz];by_cases h:(s.length:Int)<k
  ·have h1:decide ((k:Int)≤s.length)=false:=by simp;omega
   rw[h1,decide_eq_true h,cond_false,cond_true,ih hp2 (fun t ht=>hn t (by simp[ht])),List.map_append];congr 1;have:=hn s (by simp) h;unfold hdQ;cases hc:wo p s with
   |nil=>exact absurd hc this
   |cons a t=>simp[hc]
  ·have h1:decide ((k:Int)≤s.length)=true:=by simp;omega
   have h2:fwr (k:Int) r= []:=by
    unfold fwr;rw[List.filter_eq_nil_iff];intro t ht;have:=ha t ht;simp;omega
   rw[h1,decide_eq_false h,cond_true,cond_false,h2];rfl
theorem xcx(p:Pk):∀W:List (List Int),(∀s∈W,wo p s≠ [])→zbq p W (W.map (hdQ p))=0:=by
 intro W
 induction W with
 |nil=>intro _;rfl
 |cons s W ih=>
  intro h;simp only[List.map_cons,zbq]
  have hh:zay (hdQ p s) (wo p s)=true:=by
   have:=h s (List.mem_cons_self ..);unfold hdQ zay;cases hc:wo p s with
   |nil=>exact absurd hc this
   |cons a t=>simp[zaq]
  rw[hh,cond_true];exact ih fun t ht=>h t (List.mem_cons_of_mem _ ht)
variable {x:Rq} (hx:x.ok) (rp:List Int)
include hx
def prf(x:Rq)(rp:List Int):List (Int×Int):=(fwr (nd x rp).length (setsN (3+x.o))).map (hdQ (x.pk rp))
theorem yi8:∀s∈setsN (3+x.o),(s.length:Int)<(nd x rp).length→wo (x.pk rp) s≠ []:=by
 intro s hs hl he;have k:=zbz (zcm x.o hx.o);have h:=yjb hx rp s (zmh hx hs) he;rcases k.sub _ (zml hx rp) s hs h with h|h
 ·rw[h]at hl;omega
 ·omega
theorem srtd:(setsN (3+x.o)).Pairwise fun a b=>a.length≤b.length:=(zbz (zcm x.o hx.o)).sorted.imp fun h=>h.1
theorem yrg:(zu T).call 18 [xq (x.pk rp)] [] 0 []=some (.tup [k7 2 ((prf x rp).map jb),.int .i64 0],[],0,[]):=by
 obtain⟨r,h1,h2,_⟩:=zfg hx rp;have h:=c45 (x.pk rp) (zdv hx rp) (zd0 hx rp) (zeg hx rp) (by rw[h1];simp) (nd x rp) (by rw[h1];rfl);rw[pk_c,yrn _ _ _ (srtd hx) (yi8 hx rp)]at h;exact h
theorem yrh:(prf x rp).length≤64:=by
 unfold prf fwr;rw[List.length_map];exact Nat.le_trans (List.length_filter_le _ _) (zbz (zcm x.o hx.o)).len
theorem xco:zik (x.pk rp) (nd x rp).length (prf x rp)=0:=by
 have k:=zbz (zcm x.o hx.o);have hn3:(nd x rp).length≤3:=by rw[yh2 hx];cases jq x rp 0<;>cases jq x rp 1<;>cases jq x rp 2<;>decide
 unfold zik;rw[pk_c,if_pos (zar (by omega))];have hl:(((fwr (nd x rp).length (setsN (3+x.o))).length:Int) !=(prf x rp).length)=false:=by unfold prf;simp
 have hw:∀s∈fwr (nd x rp).length (setsN (3+x.o)),wo (x.pk rp) s≠ []:=fun s hs=>by
  unfold fwr at hs;rw[List.mem_filter]at hs;exact yi8 hx rp s hs.1 (by simpa using hs.2)
 have hk:qo (gd (x.pk rp) (prf x rp))=0:=by
  rw[qw];intro z hz;obtain⟨y,hy,rfl⟩:=List.mem_map.1 hz;obtain⟨s,hs,rfl⟩:=List.mem_map.1 hy
  have hm:hdQ (x.pk rp) s∈wo (x.pk rp) s:=by
   have:=hw s hs;unfold hdQ;cases hc:wo (x.pk rp) s with
   |nil=>exact absurd hc this
   |cons a t=>simp
  unfold wo at hm;rw[zpx hx]at hm;have:=xfu (w:=x.m) _ _ _ (by intro r hr;obtain⟨q,_,rfl⟩:=List.mem_map.1 hr;simp) hm;have hv:(x.pk rp).v.length=7:=by simp[Rq.pk]
  rw[hv,zc6];unfold knP zka;simp only[List.length_map,List.length_range]at this;obtain⟨g1,g2,g3,g4⟩:=this;generalize hdQ (x.pk rp) s=y at*;rw[decide_eq_false (by omega),decide_eq_false (by omega),decide_eq_false (by omega),decide_eq_false (by omega)];rfl
 rw[hl,hk,if_pos (show qo [bif false then 2 else 0,0]=0 from rfl)];exact xcx _ _ hw
theorem xc4:(zu T).call 20 [xq (x.pk rp),.int .i64 (nd x rp).length,.sl true 2 ((prf x rp).map jb)] [] 0 []=some (.int .i64 0,[],0,[]):=by
 have k:=zbz (zcm x.o hx.o);have hm:=zml hx rp;have h:=c46 (x.pk rp) (zdv hx rp) (zd0 hx rp) (zeg hx rp) (by rw[pk_c];intro e;rw[e]at hm;cases hm) (by rw[pk_c];exact srtd hx) (nd x rp).length (prf x rp) (by have:=yrh hx rp;omega);rw[xco hx]at h;exact h
end Go.Den.FaT
namespace Go.Den.FaT
open Go Go.Proofs Go.Den
theorem xek(v:V):(zu T).call 34 [.sl false 2 [],.fn 50 [.pp 3 [v] 0 0]] [] 0 []=some (.sl false 0 [],[],0,[]):=by
 rw[yjy];simp -implicitDefEqProofs only[go_sem,simprocAttr];rw[zq];simp -implicitDefEqProofs only[go_sem,simprocAttr]
theorem xdv(p:Pk)(hf:p.fit)(h0:j8 p=0)(hs:Sok p)(hne:setsN p.c.length≠ [])(hpw:(setsN p.c.length).Pairwise (fun a b=>a.length≤b.length)):
  (zu T).call 20 [xq p,.int .i64 0,.sl false 2 []] [] 0 []=some (.int .i64 0,[],0,[]):=by
 rw[yjz];have ho:=zdi h0;have e1:=c23 p hf;rw[h0]at e1;have e2:=zit 0 0 p.c.length;simp only[xq]at e1;have hr:(uj 0 0 p.c.length !=0)=false:=by rw[zar (by omega)];rfl
 have e3:=hs.c136;have e4:=yk0 p.c.length hs.len hne;obtain⟨k,k1,k2,k3,k4⟩:=zpi 0 (setsN p.c.length) hpw;have hlen:=hs.len;have hl0:0<(setsN p.c.length).length:=by cases hq:setsN p.c.length with|nil=>exact absurd hq hne|cons a r=>simp
 have hk0:k=0:=by
  rcases Nat.eq_zero_or_pos k with h|h
  ·exact h
  ·have:=k3 0 hl0 h;omega
 subst hk0;have hc:CutN 0 (setsN p.c.length) 0:=⟨k1,k3,k4,by omega,hl0⟩;have e5:=yk1 0 (setsN p.c.length) 0 hc;generalize setsN p.c.length=l at*;have e8:=ziq true 0 0;rw[if_neg (by omega)]at e5
 have e9:∀(kk:V→Prog) (S:xt) (rd wr fr:Nat) (sk:Bool) (K:V→zw→Nat→xt→FP→Option Out) (r0 r2:Row),(callP (zu T) T 39 [.ref 3,.fn 49 [.ptr 1 0 0]] kk).go none [r0,.cells true true 3 [.int .i64 0],r2,.cells false true 39 (l.map jx)] 0 S ⟨rd,wr,fr,sk⟩ K=
     (kk (.sub 3 0 0)).go none [r0,.cells true true 3 [.int .i64 0],r2,.cells false true 39 (clr l 0)] 2 S ⟨rd|||bit 3|||bit 1|||bit 3|||bit 1,wr|||bit 3|||bit 1|||bit 3|||bit 1,fr|||bit 1,sk⟩ K:=by
    intro kk S rd wr fr sk K r0 r2;refine(zh4 (x:=3) (y:=1) zfe.1 rfl kk (fun k'=>zgy (by omega) rfl rfl 9996 k') rfl rfl rfl rfl rfl rfl e5 rfl).trans ?_;simp -implicitDefEqProofs only[go_sem,simprocAttr];rfl
 generalize clr l 0=R at*;have e7:=fun b=>za3 b [] (by simp);simp only[List.map_nil]at e7;have hz:qo [0,0]=0:=rfl
 have hloop:(zu T).loop false [.code (.loop zd6),.inBlock 0,.code (.seq zeo .ret)]
  ⟨20,67,0,[(3,.ptr 0 0 0),(5,.ptr 1 0 0),(51,.sub 2 0 0),(52,.int .i64 0),(53,.int .i64 0)],[.cells true true 76 [xq p],.cells true true 34 [.sl false 2 []],.cells false true 39 R],1,[]⟩=some (.ret (.int .i64 0),[],0,[]):=by
  rw[zq];simp -implicitDefEqProofs only[go_sem,simprocAttr,xq]
 simp only[xq]at hloop;simp -implicitDefEqProofs only[go_sem,simprocAttr,xq,e1,e2,hr,e3,e4,e9,xek,e7,jl,e8,hz,hloop,k7,qo]
variable {x:Rq} (hx:x.ok) (rp:List Int)
include hx
theorem yhy: []∈setsN (3+x.o):=by
 have h:=yh4 x.o hx.o;unfold zb5 at h;have h:=List.all_eq_true.1 (List.all_eq_true.1 (List.all_eq_true.1 h false (by decide)) false (by decide)) false (by decide);obtain⟨s,hs,e⟩:=List.any_eq_true.1 h;have e:=eq_of_beq e;rw[e]at hs;exact hs
theorem xcz:(zu T).call 20 [xq (x.pk rp),.int .i64 (nd x rp).length,.sl (!((prf x rp).map jb).isEmpty) 2 ((prf x rp).map jb)] [] 0 []=some (.int .i64 0,[],0,[]):=by
 cases hp:prf x rp with
 |nil=>
  have h0:(nd x rp).length=0:=by
   rcases Nat.eq_zero_or_pos (nd x rp).length with h|h
   ·exact h
   ·exfalso
    have hm:([]:List Int)∈fwr (nd x rp).length (setsN (3+x.o)):=by
     unfold fwr;rw[List.mem_filter];exact⟨yhy hx,by simpa using h⟩
    have:=List.mem_map_of_mem (f:=hdQ (x.pk rp)) hm;rw[show(fwr (nd x rp).length (setsN (3+x.o))).map (hdQ (x.pk rp))= []from hp]at this;cases this
  rw[h0];exact xdv (x.pk rp) (zdv hx rp) (zd0 hx rp) (zeg hx rp) (by rw[pk_c];intro e;have:=yhy hx;rw[e]at this;cases this) (by rw[pk_c];exact srtd hx)
 |cons a r=>
  have h:=xc4 hx rp;rw[hp]at h;exact h
end Go.Den.FaT
namespace Go.Den.FaT
open Go Go.Den
def jc:Nat→List Int→List Int→List (List Int)
 |0,b,r=> [b]
 |n+1,b,r=>(List.range r.length).flatMap fun k=>jc n (b++ [r.getD k 0]) (r.eraseIdx k)
theorem get_erase:∀(r:List Int) (k:Nat) (h:k<r.length),(r[k]::r.eraseIdx k).Perm r
 |a::r,0,_=>List.Perm.refl _
 |a::r,k+1,h=>by
  have:=get_erase r k (by simpa using h);rw[List.getElem_cons_succ,List.eraseIdx_cons_succ];exact(List.Perm.swap a _ _).trans (List.Perm.cons a this)
theorem zho:∀(n:Nat) (b r x:List Int),r.length=n→(x∈jc n b r↔∃p,p.Perm r∧x=b++p)
 |0,b,r,x,h=>by
  have:r= []:=List.length_eq_zero_iff.1 h;subst this;simp only[jc,List.mem_singleton,List.perm_nil,exists_eq_left,List.append_nil]
 |n+1,b,r,x,h=>by
  simp only[jc,List.mem_flatMap,List.mem_range];constructor
  ·rintro⟨k,hk,hx⟩
   rw[zho n _ _ x (by rw[List.length_eraseIdx];split<;>omega)]at hx;obtain⟨p,hp,rfl⟩:=hx;refine⟨r.getD k 0::p,?_,by simp⟩;have e:r.getD k 0=r[k]:=by simp[List.getD,hk]
   rw[e];exact(List.Perm.cons _ hp).trans (get_erase r k hk)
  ·rintro⟨p,hp,rfl⟩
   match p,hp with
   | [],hp=>have:=hp.length_eq;simp at this;omega
   |a::q,hp=>
    have ha:a∈r:=hp.subset (List.mem_cons_self ..);obtain⟨k,hk,rfl⟩:=List.mem_iff_getElem.1 ha;refine⟨k,hk,?_⟩;rw[zho n _ _ _ (by rw[List.length_eraseIdx];split<;>omega)];have e:r.getD k 0=r[k]:=by simp[List.getD,hk]
    refine⟨q,?_,by rw[e];simp⟩;exact List.Perm.cons_inv (hp.trans (get_erase r k hk).symm)
def kq(w:List Int→Int)(s:List Int×Int)(o:List Int):List Int×Int:=if s.2<0∨w o<s.2 then(o,w o)else s
def qj(w:List Int→Int)(l:List (List Int))(s:List Int×Int):List Int×Int:=l.foldl (kq w) s
theorem zd4(w:List Int→Int)(a b:List (List Int))(s:List Int×Int):qj w (a++b) s=qj w b (qj w a s):=List.foldl_append ..
theorem zog(w:List Int→Int)(hw:∀o,0≤w o):∀(l:List (List Int)) (s:List Int×Int),0≤s.2→s.2=w s.1→
  (qj w l s).2=w (qj w l s).1∧(qj w l s).2≤s.2∧(∀o∈l,(qj w l s).2≤w o)∧((qj w l s).1=s.1∨(qj w l s).1∈l)
 | [],s,h0,h=>⟨h,Int.le_refl _,fun o (ho:o∈ [])=>(List.not_mem_nil ho).elim,Or.inl rfl⟩
 |o::l,s,h0,h=>by
  have e:qj w (o::l) s=qj w l (kq w s o):=rfl;by_cases hc:w o<s.2
  ·have e1:kq w s o=(o,w o):=if_pos (.inr hc)
   rw[e,e1];obtain⟨i1,i2,i3,i4⟩:=zog w hw l (o,w o) (hw o) rfl;refine⟨i1,by dsimp only at i2;omega,fun p hp=> ?_,?_⟩
   ·rcases List.mem_cons.1 hp with rfl|hp
    ·exact i2
    ·exact i3 p hp
   ·rcases i4 with i4|i4
    ·exact .inr (by rw[i4];exact List.mem_cons_self ..)
    ·exact .inr (List.mem_cons_of_mem _ i4)
  ·have e1:kq w s o=s:=if_neg (by rintro(h|h)<;>omega)
   rw[e,e1];obtain⟨i1,i2,i3,i4⟩:=zog w hw l s h0 h;refine⟨i1,i2,fun p hp=> ?_,?_⟩
   ·rcases List.mem_cons.1 hp with rfl|hp
    ·omega
    ·exact i3 p hp
   ·rcases i4 with i4|i4
    ·exact .inl i4
    ·exact .inr (List.mem_cons_of_mem _ i4)
def vl(w:List Int→Int)(r:List Int):List Int×Int:=qj w (jc r.length [] r) ([],-1)
theorem yrx:∀(n:Nat) (b r:List Int),r.length=n→jc n b r≠ []:=by
 intro n b r h h0;have:b++r∈jc n b r:=(zho n b r _ h).2 ⟨r,List.Perm.refl _,rfl⟩;rw[h0]at this;cases this
theorem zpk(w:List Int→Int)(hw:∀o,0≤w o)(r:List Int):
  (vl w r).2=w (vl w r).1∧(vl w r).1.Perm r∧∀o,o.Perm r→(vl w r).2≤w o:=by
 have hm:=fun x=>zho r.length [] r x rfl;unfold vl;cases ho:jc r.length [] r with
 |nil=>exact absurd ho (yrx _ _ _ rfl)
 |cons o l=>
  have e:qj w (o::l) ([],-1)=qj w l (o,w o):=by
   show qj w l (kq w ([],-1) o)=_;rw[show kq w ([],-1) o=(o,w o)from if_pos (.inl (by decide))]
  rw[e];obtain⟨i1,i2,i3,i4⟩:=zog w hw l (o,w o) (hw o) rfl
  have hmem:(qj w l (o,w o)).1∈jc r.length [] r:=by
   rw[ho];rcases i4 with i4|i4
   ·rw[i4];exact List.mem_cons_self ..
   ·exact List.mem_cons_of_mem _ i4
  obtain⟨p,hp,hpe⟩:=(hm _).1 hmem;refine⟨i1,by rw[hpe];simpa using hp,fun q hq=> ?_⟩;have hq':q∈jc r.length [] r:=(hm _).2 ⟨q,hq,rfl⟩;rw[ho]at hq';rcases List.mem_cons.1 hq' with rfl|hq'
  ·exact i2
  ·exact i3 q hq'
def zdp(x:Int):Int:=max x (-x)
def jf(a b:Int×Int):Int:=zdp (a.1- b.1)+zdp (a.2- b.2)
theorem ze6(a b:Int×Int):0≤jf a b:=by unfold jf zdp;omega
def wx(d:Int×Int):Int×Int→List (Int×Int)→Int
 |a,[]=>jf a d
 |a,p::l=>jf a p+wx d p l
theorem zo1(d:Int×Int):∀(l:List (Int×Int)) (a:Int×Int),0≤wx d a l
 | [],a=>ze6 ..
 |p::l,a=>by
  have:=zo1 d l p;have:=ze6 a p;simp only[wx];omega
theorem zo2(d:Int×Int)(B:Int)(hB:∀a b:Int×Int,a.1≤1000∧ -1000≤a.1∧a.2≤1000∧ -1000≤a.2→b.1≤1000∧ -1000≤b.1∧b.2≤1000∧ -1000≤b.2→jf a b≤B)(hd:d.1≤1000∧ -1000≤d.1∧d.2≤1000∧ -1000≤d.2):
  ∀(l:List (Int×Int)) (a:Int×Int),(∀p∈l,p.1≤1000∧ -1000≤p.1∧p.2≤1000∧ -1000≤p.2)→(a.1≤1000∧ -1000≤a.1∧a.2≤1000∧ -1000≤a.2)→wx d a l≤B*(l.length+1)
 | [],a,_,ha=>by simpa[wx]using hB a d ha hd
 |p::l,a,h,ha=>by
  have h1:=hB a p ha (h p (List.mem_cons_self ..));have h2:=zo2 d B hB hd l p (fun q hq=>h q (List.mem_cons_of_mem _ hq)) (h p (List.mem_cons_self ..));simp only[wx,List.length_cons,Int.natCast_add,Int.natCast_one];have:B*((l.length:Int)+1+1)=B*(l.length+1)+B:=by rw[Int.mul_add,Int.mul_one]
  omega
theorem zhv(a b:Int×Int)(ha:a.1≤1000∧ -1000≤a.1∧a.2≤1000∧ -1000≤a.2)(hb:b.1≤1000∧ -1000≤b.1∧b.2≤1000∧ -1000≤b.2):jf a b≤4000:=by
 unfold jf zdp;omega
end Go.Den.FaT
namespace Go.Den.FaT
open Go Go.Proofs Go.Den
theorem k63(b:Bool)(e:Int):(zu T).call 63 [.bool b,.int .i64 e] [] 0 []=some (.int .i64 (cond b e 0),[],0,[]):=by
 rw[yzx];cases b
 ·simp -implicitDefEqProofs only[go_sem,simprocAttr]
 ·simp -implicitDefEqProofs only[go_sem,simprocAttr]
theorem k67(n a b:Int):(zu T).call 67 [.int .i64 n,.int .i64 a,.int .i64 b] [] 0 []=some (.int .i64 (uj n a b),[],0,[]):=by
 rw[yzw];cases h:decide (n<a)
 ·simp -implicitDefEqProofs only[go_sem,simprocAttr,h,k63,uj]
 ·simp -implicitDefEqProofs only[go_sem,simprocAttr,h,k63,uj]
theorem yug(b:Bool)(l:List Int)(hb:l.length<4611686018427387904):∀i,i≤l.length→(zu T).loop false [.code (.loop zja),.inBlock 0,.code (.seq zln .ret)] ⟨54,15,0,[(5,.sl b 1 (l.map fun n=> .int .i64 n)),(6,.int .i64 l.length),(7,.int .i64 i)],[],0,[]⟩=some (.ret (.int .i64 (qo (l.drop i))),[],0,[]):=by
 refine xh l.length ?_ fun i hi ih=> ?_
 ·rw[zq]
  have h1:=xu l.length;simp -implicitDefEqProofs only[go_sem,simprocAttr,h1];simp[qo]
 ·obtain⟨h1,h2,h3,h4,h5⟩:=ze hi hb
  rw[zq,h5];cases h6:(l[i] !=0)
  ·have h7:l[i]=0:=by simpa using h6
   simp -implicitDefEqProofs only[go_sem,simprocAttr,h1,h2,h3,h4,h6,ih];simp[qo,h7]
  ·have h7:l[i]≠0:=by simpa using h6
   simp -implicitDefEqProofs only[go_sem,simprocAttr,h1,h2,h3,h4,h6];simp[qo,h7]
theorem k54(b:Bool)(l:List Int)(hb:l.length<4611686018427387904):(zu T).call 54 [.sl b 1 (l.map fun n=> .int .i64 n)] [] 0 []=some (.int .i64 (qo l),[],0,[]):=by
 rw[yz4];have h:=yug b l hb 0 (by omega);rw[show((0:Nat):Int)=0 from rfl,List.drop_zero]at h;simp -implicitDefEqProofs only[go_sem,simprocAttr,h]
theorem zb8(b:Bool)(x y:Int):(zu T).call 54 [.sl b 1 [.int .i64 x,.int .i64 y]] [] 0 []=some (.int .i64 (qo [x,y]),[],0,[]):=k54 b [x,y] (by simp)
theorem zm1(b:Bool)(x y z:Int):(zu T).call 54 [.sl b 1 [.int .i64 x,.int .i64 y,.int .i64 z]] [] 0 []=some (.int .i64 (qo [x,y,z]),[],0,[]):=k54 b [x,y,z] (by simp)
theorem yws(b:Bool)(x y z u v:Int):(zu T).call 54 [.sl b 1 [.int .i64 x,.int .i64 y,.int .i64 z,.int .i64 u,.int .i64 v]] [] 0 []=some (.int .i64 (qo [x,y,z,u,v]),[],0,[]):=k54 b [x,y,z,u,v] (by simp)
theorem yim(x y:Int):(zu T).call 102 [.agg [.int .i64 x,.int .i64 y]] [] 0 []=some (.int .i64 (ckP x y),[],0,[]):=by
 rw[xbf];simp -implicitDefEqProofs only[go_sem,simprocAttr,k67,zb8,ckP]
theorem k58(n:Int):(zu T).call 58 [.int .i64 n] [] 0 []=some (.int .i64 (uj n 0 1000),[],0,[]):=by
 rw[yz0];simp -implicitDefEqProofs only[go_sem,simprocAttr,k67]
def zfo(x y t p:Int):Int:=qo [ckP x y,uj t 0 10000,uj p 0 1000]
theorem k55(x y t p:Int):(zu T).call 55 [.agg [.int .i64 x,.int .i64 y,.int .i64 t,.int .i64 p]] [] 0 []=some (.int .i64 (zfo x y t p),[],0,[]):=by
 rw[yz3];simp -implicitDefEqProofs only[go_sem,simprocAttr,k67,yim,k58,zm1,zfo]
def uh(a:Int×Int):Prop:=a.1≤1000∧ -1000≤a.1∧a.2≤1000∧ -1000≤a.2
theorem zan{n:Int}(h: -1000000≤n∧n≤1000000):IntKind.i64.wrap n=n:=wrap64 (by omega) (by omega)
theorem k76(a b:Int×Int)(ha:uh a)(hb:uh b):(zu T).call 76 [.agg [.int .i64 a.1,.int .i64 a.2,.int .i64 b.1,.int .i64 b.2]] [] 0 []=some (.int .i64 (jf a b),[],0,[]):=by
 obtain⟨a1,a2⟩:=a;obtain⟨b1,b2⟩:=b;unfold uh at ha hb;dsimp only at ha hb;have w1:IntKind.i64.wrap (a1- b1)=a1- b1:=zan (by omega);have w2:IntKind.i64.wrap (a2- b2)=a2- b2:=zan (by omega);have w3:IntKind.i64.wrap (0- (a1- b1))= -(a1- b1):=by rw[zan (by omega)];omega
 have w4:IntKind.i64.wrap (0- (a2- b2))= -(a2- b2):=by rw[zan (by omega)];omega
 have w5:IntKind.i64.wrap (max (a1- b1) (-(a1- b1))+max (a2- b2) (-(a2- b2)))=jf (a1,a2) (b1,b2):=by rw[zan (by omega)];rfl
 rw[yzv];cases h:(a1==0&&a2==0&&(b1==0&&b2==0))
 ·simp -implicitDefEqProofs only[go_sem,simprocAttr,h,w1,w2,w3,w4,w5]
 ·have h0:jf (a1,a2) (b1,b2)=0:=by
   simp only[Bool.and_eq_true,beq_iff_eq]at h;obtain⟨⟨rfl,rfl⟩,rfl,rfl⟩:=h;rfl
  simp -implicitDefEqProofs only[go_sem,simprocAttr,h,h0]
structure Sd where
 nm:List UInt8
 p:Int×Int
 w:Int
 t:Int
def qi(s:Sd):V:= .agg [.str s.nm,.int .i64 s.p.1,.int .i64 s.p.2,.int .i64 s.w,.int .i64 s.t]
attribute [go_sem] qi
def zaa(l:List Sd)(i:Int):Int×Int:=match l[i.toNat]? with|some s=>s.p|none=>(0,0)
def uu(n:Nat)(o:List Int):Prop:=∀i∈o,0≤i∧i<n
theorem yuj(c:Int×Int)(ct cp:Int)(hc:uh c)(b b':Bool)(l:List Sd)(hl:∀s∈l,uh s.p)(hll:l.length<1000)(o:List Int)(hol:o.length≤100)(ho:uu l.length o):∀i,i≤o.length→∀(a:Int×Int) (n:Int),uh a→0≤n→n≤4000*i→
  (zu T).loop false [.code (.loop zjd),.inBlock 0,.code (.seq zlr .ret)] ⟨37,42,0,[(1,.sl b 5 (l.map qi)),(3,.ptr 0 0 0),(7,.ptr 1 0 0),(8,.int .i64 n),(13,.sl b' 1 (o.map zx)),(14,.int .i64 o.length),(15,.int .i64 i)],
   [.cells true true 58 [.agg [.int .i64 c.1,.int .i64 c.2,.int .i64 ct,.int .i64 cp]],.cells true true 31 [.agg [.int .i64 a.1,.int .i64 a.2]]],0,[]⟩=
  some (.ret (.int .i64 (n+wx c a ((o.drop i).map (zaa l)))),[],0,[]):=by
 refine xh o.length ?_ fun i hi ih=> ?_
 ·intro a n ha h0 hn
  rw[zq];have h1:=xu o.length;have e1:=k76 a c ha hc;have hb:=ze6 a c;have hb2:=zhv a c ha hc;have w1:IntKind.i64.wrap (n+jf a c)=n+jf a c:=zan (by omega);simp -implicitDefEqProofs only[go_sem,simprocAttr,h1,e1,w1];simp[wx]
 ·intro a n ha h0 hn
  obtain⟨h1,h2,h3,h4,h5⟩:=ze hi (by omega);have hi2:=ho o[i] (List.getElem_mem hi);obtain⟨k,hk⟩:∃k:Nat,o[i]=k:=⟨o[i].toNat,by omega⟩;have hkl:k<l.length:=by omega
  have q1:decide (0≤(k:Int)∧(k:Int)<(l.length:Int))=true:=by simp;omega
  have q2:l[k]? =some l[k]:=List.getElem?_eq_getElem hkl;have hp:uh l[k].p:=hl _ (List.getElem_mem hkl);have e1:=k76 a l[k].p ha hp;have hb:=ze6 a l[k].p;have hb2:=zhv a l[k].p ha hp;have w1:IntKind.i64.wrap (n+jf a l[k].p)=n+jf a l[k].p:=zan (by omega);have hih:=ih l[k].p (n+jf a l[k].p) hp (by omega) (by omega);have hpt:zaa l o[i]=l[k].p:=by unfold zaa;rw[hk];simp[q2]
  rw[zq,h5,List.map_cons,hpt];simp only[wx];rw[hk]at h3;simp -implicitDefEqProofs only[go_sem,simprocAttr,h1,h2,h3,h4,q1,q2,e1,w1,hih];rw[Int.add_assoc]
def jk(c:Int×Int)(ct cp:Int):V:= .agg [.int .i64 c.1,.int .i64 c.2,.int .i64 ct,.int .i64 cp]
attribute [go_sem] jk
def wayO(c:Int×Int)(l:List Sd)(o:List Int):Int:=wx c c (o.map (zaa l))
theorem k37(c:Int×Int)(ct cp:Int)(hc:uh c)(b b':Bool)(l:List Sd)(hl:∀s∈l,uh s.p)(hll:l.length<1000)(o:List Int)(hol:o.length≤100)(ho:uu l.length o):
  (zu T).call 37 [jk c ct cp,.sl b 5 (l.map qi),.sl b' 1 (o.map zx)] [] 0 []=some (.int .i64 (wayO c l o),[],0,[]):=by
 rw[yjv];have h:=yuj c ct cp hc b b' l hl hll o hol ho 0 (by omega) c 0 hc (by omega) (by omega);rw[show((0:Nat):Int)=0 from rfl,List.drop_zero,Int.zero_add]at h;simp -implicitDefEqProofs only[go_sem,simprocAttr,h];rfl
def yn(l:List Int)(x:Int):Bool:=l.any fun y=>x==y
theorem yvg(b:Bool)(l:List Int)(x:Int)(hb:l.length<1000000):∀i,i≤l.length→∃n:Int,(yn (l.drop i) x=true→0≤n)∧(yn (l.drop i) x=false→n= -1)∧
  (zu T).loop false [.code (.loop zf6),.inBlock 0,.code (.seq zhb .ret)] ⟨108,19,0,[(0,.sl b 1 (l.map fun n=> .int .i64 n)),(1,.int .i64 x),(7,.int .i64 l.length),(8,.int .i64 i)],[],0,[]⟩=some (.ret (.int .i64 n),[],0,[]):=by
 refine xh l.length ?_ fun i hi ih=> ?_
 ·refine⟨-1,by simp[yn],fun _=>rfl,?_⟩
  rw[zq];have h1:=xu l.length;simp -implicitDefEqProofs only[go_sem,simprocAttr,h1]
 ·obtain⟨h1,h2,h3,h4,h5⟩:=ze hi (by omega)
  obtain⟨n,n1,n2,n3⟩:=ih;rw[h5];cases h:(x==l[i])
  ·refine⟨n,fun h'=>n1 (by simpa only[yn,List.any_cons,h,Bool.false_or]using h'),fun h'=>n2 (by simpa only[yn,List.any_cons,h,Bool.false_or]using h'),?_⟩
   rw[zq];simp -implicitDefEqProofs only[go_sem,simprocAttr,h1,h2,h3,h4,h,n3]
  ·refine⟨i,(fun _=>by omega),(fun h'=>by simp only[yn,List.any_cons,h,Bool.true_or]at h';cases h'),?_⟩
   rw[zq];simp -implicitDefEqProofs only[go_sem,simprocAttr,h1,h2,h3,h4,h]
theorem k72(b:Bool)(l:List Int)(x:Int)(hb:l.length<1000000):(zu T).call 72 [.sl b 1 (l.map fun n=> .int .i64 n),.int .i64 x] [] 0 []=some (.bool (yn l x),[],0,[]):=by
 obtain⟨n,n1,n2,n3⟩:=yvg b l x hb 0 (by omega);rw[List.drop_zero]at n1 n2
 have e:(zu T).call 108 [.sl b 1 (l.map fun n=> .int .i64 n),.int .i64 x] [] 0 []=some (.int .i64 n,[],0,[]):=by
  rw[yj2];rw[show((0:Nat):Int)=0 from rfl]at n3;simp -implicitDefEqProofs only[go_sem,simprocAttr,n3]
 rw[yjr]
 have h:decide (n≥0)=yn l x:=by
  cases h:yn l x
  ·rw[n2 h];rfl
  ·exact decide_eq_true (n1 h)
 simp -implicitDefEqProofs only[go_sem,simprocAttr,e,h]
def kvS(s:Sd):V×V:=(.str s.nm,.bool true)
theorem eqS(a b:List UInt8):eqT T 5 9 (.str a) (.str b)=some (a==b):=by
 simp -implicitDefEqProofs only[go_sem,simprocAttr]
theorem ywj(a:List UInt8):keyOk T 3 9 (.str a)=true:=by kernel_rfl
structure OkS (l:List Sd):Prop where
 nm:∀s∈l,(zu T).call 103 [.str s.nm] [] 0 []=some (.bool true,[],0,[])
 dis:∀i j (hi:i<j) (hj:j<l.length),(l[j].nm==(l[i]'(by omega)).nm)=false
 p:∀s∈l,uh s.p
 w:∀s∈l,0≤s.w∧s.w≤1000000
 t:∀s∈l,0≤s.t∧s.t≤10000
 len:l.length≤8
theorem yhx{l:List Sd}(h:OkS l){i:Nat}(hi:i<l.length):∀e∈(l.take i).map kvS,eqT T 5 9 (.str l[i].nm) e.1=some false:=by
 intro e he;obtain⟨m,hm,rfl⟩:=List.mem_map.1 he;obtain⟨j,hj,rfl⟩:=List.mem_iff_getElem.1 hm;have hj':j<i:=by simp at hj;omega
 simp only[kvS,List.getElem_take];rw[eqS,h.dis j i hj' hi]
theorem yh8{eq:V→V→Option Bool}{x:V}:∀{es:List (V×V)},(∀e∈es,eq x e.1=some false)→mapGet eq es x=some none
 | [],_=>rfl
 |(a,b)::r,h=>by
  have h1:=h (a,b) (List.mem_cons_self ..);dsimp only at h1;simp only[mapGet,h1,yh8 (es:=r) (fun e he=>h e (List.mem_cons_of_mem _ he))]
theorem ykh{p:Int×Int}(h:uh p):ckP p.1 p.2=0:=by
 unfold uh at h;unfold ckP;rw[zdc,zdc,if_neg (by omega),if_neg (by omega)];rfl
theorem zej{n a b:Int}(h:a≤n∧n≤b):uj n a b=0:=by rw[zdc,if_neg (by omega)]
theorem yuf(b:Bool)(l:List Sd)(h:OkS l):∀i,i≤l.length→
  (zu T).loop false [.code (.loop zi9),.inBlock 0,.code (.seq zlm .ret)] ⟨56,45,0,[(3,.map 0),(11,.sl b 5 (l.map qi)),(12,.int .i64 l.length),(13,.int .i64 i)],[.map ((l.take i).map kvS)],0,[]⟩=some (.ret (.int .i64 0),[],0,[]):=by
 have hlen:=h.len;refine xh l.length ?_ fun i hi ih=> ?_
 ·rw[zq]
  have h1:=xu l.length;simp -implicitDefEqProofs only[go_sem,simprocAttr,h1]
 ·obtain⟨h1,h2,h3,h4,h5⟩:=ze hi (by omega)
  have hm:=List.getElem_mem hi;have e1:=h.nm _ hm;have g:=yh8 (yhx h hi)
  have s:mapSet (eqT T 5 9) ((l.take i).map kvS) (.str l[i].nm) (.bool true)=some ((l.take (i+1)).map kvS):=by
   rw[zms (yhx h hi),List.take_succ_eq_append_getElem hi,List.map_append];rfl
  have r1:=ykh (h.p _ hm);have r2:=zej (h.w _ hm);have r3:=zej (h.t _ hm);have f0:qo [0,0,0,0,0]=0:=rfl;rw[zq];simp -implicitDefEqProofs only[go_sem,simprocAttr,h1,h2,h3,h4,e1,g,s,ywj,k63,k67,yim,yws,r1,r2,r3,f0,ih]
theorem k56(b:Bool)(l:List Sd)(h:OkS l):(zu T).call 56 [.sl b 5 (l.map qi)] [] 0 []=some (.int .i64 0,[],0,[]):=by
 have hlen:=h.len;rw[yz2];have e:=yuf b l h 0 (by omega);rw[show((0:Nat):Int)=0 from rfl,List.take_zero]at e;have h1:decide ((l.length:Int)>8)=false:=decide_eq_false (by omega);simp only[List.map_nil]at e;simp -implicitDefEqProofs only[go_sem,simprocAttr,e,h1]
structure OkO (set:Bool) (n:Nat) (o:List Int):Prop where
 ok:uu n o
 dis:set=false→∀i (hi:i<o.length),yn (o.take i) o[i]=false
 asc:set=true→∀i (hi:0<i) (hi2:i<o.length),o[i- 1]<o[i]
 len:o.length≤8
theorem OkO.crew{c:Int×Int}{ct cp:Int}(hc:uh c)(ht:0≤ct∧ct≤10000)(hp:0≤cp∧cp≤1000):zfo c.1 c.2 ct cp=0:=by
 unfold zfo;rw[ykh hc,zej ht,zej hp];rfl
theorem yuk(c:Int×Int)(ct cp:Int)(b b' set:Bool)(l:List Sd)(hl:OkS l)(o:List Int)(ho:OkO set l.length o):∀i,i≤o.length→
  (zu T).loop false [.code (.loop zje),.inBlock 0,.code (.seq zls .ret)] ⟨35,66,0,[(1,.sl b 5 (l.map qi)),(2,.sl b' 1 (o.map zx)),(3,.bool set),(23,.sl b' 1 (o.map zx)),(24,.int .i64 o.length),(25,.int .i64 i)],[],0,[]⟩=some (.ret (.int .i64 0),[],0,[]):=by
 have hlen:=hl.len;have holen:=ho.len;refine xh o.length ?_ fun i hi ih=> ?_
 ·rw[zq]
  have h1:=xu o.length;simp -implicitDefEqProofs only[go_sem,simprocAttr,h1]
 ·obtain⟨h1,h2,h3,h4,h5⟩:=ze hi (by omega)
  have hr:=ho.ok _ (List.getElem_mem hi);have d1:decide (o[i]<0)=false:=decide_eq_false (by omega);have d2:decide (o[i]≥(l.length:Int))=false:=decide_eq_false (by omega)
  have e1:(zu T).call 72 [.sl b' 1 ((o.map zx).take i),.int .i64 o[i]] [] 0 []=some (.bool (yn (o.take i) o[i]),[],0,[]):=by
   rw[←List.map_take];exact k72 b' (o.take i) o[i] (by simp;omega)
  have t1:decide (0≤i∧i≤o.length)=true:=decide_eq_true (by omega);have f0:qo [0,0]=0:=rfl;have t2:decide (0≤(i:Int))=true:=decide_eq_true (by omega);rw[zq];cases set
  ·have hd:=ho.dis rfl i hi
   simp -implicitDefEqProofs only[go_sem,simprocAttr,h1,h2,h3,h4,d1,d2,e1,hd,k63,zb8,t1,t2,f0,ih]
  ·by_cases hi0:i=0
   ·have d3:decide (0<(i:Int))=false:=decide_eq_false (by omega)
    simp -implicitDefEqProofs only[go_sem,simprocAttr,h1,h2,h3,h4,d1,d2,d3,e1,k63,zb8,t1,t2,f0,ih]
   ·have ha:=ho.asc rfl i (by omega) hi
    have d3:decide (0<(i:Int))=true:=decide_eq_true (by omega);have w1:IntKind.i64.wrap (max (i:Int) 1- 1)=((i- 1:Nat):Int):=by rw[zan (by omega)];omega
    have d4:decide (0≤((i- 1:Nat):Int)∧((i- 1:Nat):Int)<(o.length:Int))=true:=decide_eq_true (by omega);have q:o[i- 1]? =some o[i- 1]:=List.getElem?_eq_getElem (by omega);have d5:decide (o[i]≤o[i- 1])=false:=decide_eq_false (by omega);simp -implicitDefEqProofs only[go_sem,simprocAttr,h1,h2,h3,h4,d1,d2,d3,d4,d5,w1,q,e1,k63,zb8,t1,t2,f0,ih]
structure OkC (c:Int×Int) (ct cp:Int):Prop where
 c:uh c
 t:0≤ct∧ct≤10000
 p:0≤cp∧cp≤1000
theorem OkC.ck{c:Int×Int}{ct cp:Int}(h:OkC c ct cp):zfo c.1 c.2 ct cp=0:=OkO.crew h.c h.t h.p
theorem k35{c:Int×Int}{ct cp:Int}(hc:OkC c ct cp)(b b' set:Bool)(l:List Sd)(hl:OkS l)(o:List Int)(ho:OkO set l.length o):
  (zu T).call 35 [jk c ct cp,.sl b 5 (l.map qi),.sl b' 1 (o.map zx),.bool set] [] 0 []=some (.int .i64 0,[],0,[]):=by
 have e:=yuk c ct cp b b' set l hl o ho 0 (by omega);rw[show((0:Nat):Int)=0 from rfl]at e;have h0:qo [0,0]=0:=rfl;have h1:=k55 c.1 c.2 ct cp;rw[hc.ck]at h1;rw[yjx];simp -implicitDefEqProofs only[go_sem,simprocAttr,k56 b l hl,h1,zb8,h0,e]
theorem ywn(l:List Int)(x:Int)(hl:l.length<1000000):(zu T).call 75 [.ref 0] [.cells false true 3 ((x::l).map zx)] 0 []=some (.ref 2,[.cells false true 3 ((x::l).map zx),.dead,.cells false true 3 ((x::l).map zx)],0,[]):=by
 rw[zfl];have h:=(xf (n:=l.length) (by omega)).1;simp -implicitDefEqProofs only[go_sem,simprocAttr,h]
 done
theorem yij(l:List Int)(x:Int)(hl:l.length<1000000):(zu T).call 75 [.ref 0] [.cells false true 3 ((x::l).map zx)] 1 []=some (.ref 2,[.cells false true 3 ((x::l).map zx),.dead,.cells false true 3 ((x::l).map zx)],1,[]):=by
 rw[zfl];have h:=(xf (n:=l.length) (by omega)).1;simp -implicitDefEqProofs only[go_sem,simprocAttr,h]
theorem zm0(l:List Int)(x:Int)(hl:l.length<1000000):(zu T).call 75 [.sl true 1 ((x::l).map zx)] [] 0 []=some (.ref 1,[.dead,.cells false true 3 ((x::l).map zx)],0,[]):=by
 rw[zfl];have h:=(xf (n:=l.length) (by omega)).1;simp -implicitDefEqProofs only[go_sem,simprocAttr,h]
theorem zhw:(zu T).call 75 [.sl false 0 []] [] 0 []=some (.sl false 0 [],[],0,[]):=by
 rw[zfl];simp -implicitDefEqProofs only[go_sem,simprocAttr]
theorem ywm(l:List Int)(x:Int)(r:List Int)(a:Nat)(hl:a+(l.length+1)≤r.length)(hr:(r.drop a).take (l.length+1)=x::l)(hl2:l.length<1000000):(zu T).call 75 [.sub 0 a (l.length+1)] [.cells false true 3 (r.map zx)] 0 []=some (.ref 2,[.cells false true 3 (r.map zx),.dead,.cells false true 3 ((x::l).map zx)],0,[]):=by
 rw[zfl];have h:=(xf (n:=l.length) (by omega)).1
 have e:List.take (l.length+1) (List.drop a (List.map zx r))= .int .i64 x::l.map zx:=by
  rw[←List.map_drop,←List.map_take,hr];rfl
 simp -implicitDefEqProofs only[go_sem,simprocAttr,h,e]
theorem zhy(l:List Int)(k:Nat)(hk:k<l.length)(hl:l.length<1000000):(zu T).call 109 [.ref 0,.int .i64 k,.int .i64 ((k:Int)+1)] [.cells false true 3 (l.map zx)] 0 []=some (.sub 0 0 (l.length- 1),.cells false true 3 ((l.eraseIdx k++ [0]).map zx)::List.replicate 8 .free,0,[]):=by
 rw[xbb];have e1:((k:Int)+1).toNat=k+1:=by omega
 have e2:((k:Int)==(k:Int)+1)=false:=by simp;omega
 have e3:(List.take (l.length- (k+1)) (List.drop (k+1) (List.map zx l)))=(l.drop (k+1)).map zx:=by
  rw[←List.map_drop,←List.map_take,List.take_of_length_le (by simp)]
 have e4:(l.drop (k+1)).length=l.length- (k+1):=by simp
 have e5:zt ((l.drop (k+1)).map zx)= []:=zdo _ _ fun _=>rfl;have e6:k- 0+(l.length- (k+1))=l.length- 1:=by omega
 simp -implicitDefEqProofs only[go_sem,simprocAttr,e1,e2,e3,e4,e5,e6,List.length_map,List.length_take,List.length_append,List.length_drop,List.isEmpty_nil];have hd:List.drop (l.length- 1) (List.map zx l)=(l.drop (l.length- 1)).map zx:=by rw[List.map_drop]
 have ht:List.take (k- 0) (List.map zx l)=(l.take k).map zx:=by rw[←List.map_take,Nat.sub_zero]
 have hr:List.take (l.length- 1) (List.map zx (l.take k)++(List.map zx (List.drop (k+1) l)++List.map zx (l.drop (l.length- 1))))=(l.eraseIdx k).map zx:=by
  rw[←List.append_assoc,List.take_append_of_le_length (by simp;omega),←List.map_append,←List.eraseIdx_eq_take_drop_succ,List.take_of_length_le (by rw[List.length_map,List.length_eraseIdx,if_pos hk];omega)]
 have hx:l.length- (l.length- 1)=1:=by omega
 have hz:List.drop (l.length- 1+1) (List.map zx (l.take k)++(List.map zx (List.drop (k+1) l)++List.map zx (l.drop (l.length- 1))))= []:=List.drop_of_length_le (by simp;omega);rw[hd,ht,hx,hr,hz]
 have c1:(decide (l.length- 1≤l.length∧l.length≤l.length- 1)||decide (l.length- 1≤l.length∧l.length≤min (k- 0) l.length+(l.length- (k+1)+1)))=true:=by
  rw[Bool.or_eq_true];exact .inr (decide_eq_true (by omega))
 rw[c1]
 repeat rw[ytb (by omega)]
 simp only[need,List.map_append,List.replicate];rfl
end Go.Den.FaT
namespace Go.Den.FaT
open Go Go.Proofs Go.Den
def oC(id:Nat):Option (List Int)→Row
 |none=> .cells true true 39 [.sl false 0 []]
 |some _=> .cells true false 39 [.ref id]
def oR:Option (List Int)→zw
 |none=> []
 |some l=> [.cells false true 3 (l.map zx)]
def shr(w n:Int):Bool:=decide (n<0)||decide (w<n)
def cC(c:Int×Int)(ct cp:Int):Row:= .cells true true 58 [jk c ct cp]
def cL(b:Bool)(l:List Sd):Row:= .cells true true 37 [.sl b 5 (l.map qi)]
def k8(n:Int):Row:= .cells true true 3 [.int .i64 n]
def cI(l:List Int):Row:= .cells false true 3 (l.map zx)
section
variable {c:Int×Int} {ct cp:Int} (hc:OkC c ct cp) (b:Bool) (l:List Sd) (hl:OkS l)
include hc hl
theorem ywo(x:Int)(r:List Int)(ho:uu l.length (x::r))(hol:(x::r).length≤8)(n:Int)(h:shr (wayO c l (x::r)) n=true):
  (zu T).call 74 [.ref 0,.ptr 1 0 0,.ptr 2 0 0,.ptr 3 0 0,.ptr 4 0 0] [cI (x::r),cC c ct cp,cL b l,k8 n,oC 5 none] 0 []=
   some (.bool true,[cI (x::r),cC c ct cp,cL b l,k8 (wayO c l (x::r)),oC 5 (some (x::r)),cI (x::r)],1,[]):=by
 have e1:=k37 c ct cp hc.c b true l hl.p (by have:=hl.len;omega) (x::r) (by omega) ho;have e2:=yij r x (by simp at hol;omega);simp only[jk,List.map_cons,zx]at e1 e2;simp only[cI,cC,cL,k8,oC,jk,List.map_cons,zx];generalize wayO c l (x::r)=w at*;unfold shr at h;rw[zid];cases h1:decide (n<0)
 ·rw[h1,Bool.false_or]at h
  simp -implicitDefEqProofs only[go_sem,simprocAttr,h1,h,e1,e2,x8,x9,x7]
  done
 ·simp -implicitDefEqProofs only[go_sem,simprocAttr,h1,e1,e2,x8,x9,x7]
  done
include hc hl
theorem ywp(x:Int)(r:List Int)(ho:uu l.length (x::r))(hol:(x::r).length≤8)(n:Int)(o:List Int)(h:shr (wayO c l (x::r)) n=true):
  (zu T).call 74 [.ref 0,.ptr 1 0 0,.ptr 2 0 0,.ptr 3 0 0,.ptr 4 0 0] [cI (x::r),cC c ct cp,cL b l,k8 n,oC 5 (some o),cI o] 0 []=
   some (.bool true,[cI (x::r),cC c ct cp,cL b l,k8 (wayO c l (x::r)),oC 6 (some (x::r)),cI o,cI (x::r)],1,[]):=by
 have e1:=k37 c ct cp hc.c b true l hl.p (by have:=hl.len;omega) (x::r) (by omega) ho;have e2:=yij r x (by simp at hol;omega);simp only[jk,List.map_cons,zx]at e1 e2;simp only[cI,cC,cL,k8,oC,jk,List.map_cons,zx];generalize wayO c l (x::r)=w at*;unfold shr at h;rw[zid];cases h1:decide (n<0)
 ·rw[h1,Bool.false_or]at h
  simp -implicitDefEqProofs only[go_sem,simprocAttr,h1,h,e1,e2,x8,x9,x7]
 ·simp -implicitDefEqProofs only[go_sem,simprocAttr,h1,e1,e2,x8,x9,x7]
include hc hl
theorem ywq(x:Int)(r:List Int)(ho:uu l.length (x::r))(hol:(x::r).length≤8)(n:Int)(o:List Int)(h:shr (wayO c l (x::r)) n=false):
  (zu T).call 74 [.ref 0,.ptr 1 0 0,.ptr 2 0 0,.ptr 3 0 0,.ptr 4 0 0] [cI (x::r),cC c ct cp,cL b l,k8 n,oC 5 (some o),cI o] 0 []=
   some (.bool true,[cI (x::r),cC c ct cp,cL b l,k8 n,oC 5 (some o),cI o],1,[]):=by
 have e1:=k37 c ct cp hc.c b true l hl.p (by have:=hl.len;omega) (x::r) (by omega) ho;simp only[jk,List.map_cons,zx]at e1;simp only[cI,cC,cL,k8,oC,jk,List.map_cons,zx];generalize wayO c l (x::r)=w at*;unfold shr at h;rw[Bool.or_eq_false_iff]at h;rw[zid];simp -implicitDefEqProofs only[go_sem,simprocAttr,h.1,h.2,e1,x8,x9,x7]
include hc hl
theorem ywt:(zu T).call 37 [jk c ct cp,.sl b 5 (l.map qi),.sl false 0 []] [] 0 []=some (.int .i64 (wayO c l []),[],0,[]):=by
 have e:=k76 c c hc.c hc.c;have e0:jf c c=wayO c l []:=rfl
 have w1:IntKind.i64.wrap (wayO c l [])=wayO c l []:=by
  have h1:=ze6 c c;have h2:=zhv c c hc.c hc.c;rw[←e0];exact zan (by omega)
 rw[e0]at e;rw[yjv];simp -implicitDefEqProofs only[go_sem,simprocAttr,e];rw[zq];simp -implicitDefEqProofs only[go_sem,simprocAttr,e,Int.zero_add,w1]
include hc hl
theorem ywr(n:Int)(h:n<0):
  (zu T).call 74 [.sl false 0 [],.ptr 0 0 0,.ptr 1 0 0,.ptr 2 0 0,.ptr 3 0 0] [cC c ct cp,cL b l,k8 n,oC 4 none] 0 []=
   some (.bool true,[cC c ct cp,cL b l,k8 (wayO c l []),.cells true true 39 [.sl false 1 []]],0,[]):=by
 have e1:=ywt hc b l hl;have e2:=zhw;have h1:decide (n<0)=true:=decide_eq_true h;simp only[jk]at e1;simp only[cC,cL,k8,oC,jk];generalize wayO c l []=w at*;rw[zid];simp -implicitDefEqProofs only[go_sem,simprocAttr,h1,e1,e2,x8,x9,x7]
end
end Go.Den.FaT
namespace Go.Den.FaT
open Go Go.Proofs Go.Den
def fY(i:Nat):V:= .fn 74 [.ptr i 0 0,.ptr (i+1) 0 0,.ptr (i+2) 0 0,.ptr (i+3) 0 0]
section
variable {c:Int×Int} {ct cp:Int} (hc:OkC c ct cp) (b:Bool) (l:List Sd) (hl:OkS l)
def hI(c:Int×Int)(ct cp:Int)(b:Bool)(l:List Sd)(bg rs:List Int)(n:Int)(o:Option (List Int)):zw:= [cI bg,cI (rs++ [0]),cC c ct cp,cL b l,k8 n,oC 6 o]++oR o
def hJ(c:Int×Int)(ct cp:Int)(b:Bool)(l:List Sd)(bg rs:List Int)(n:Int)(o o':List Int):zw:= [cI bg,cI (rs++ [0]),cC c ct cp,cL b l,k8 n,oC 7 (some o'),cI o,cI o']
def zge(c:Int×Int)(ct cp:Int)(b:Bool)(l:List Sd)(bg rs:List Int):Prop:=
 (∀n:Int,n<0→∃s fz,(fz=0∨fz=1)∧s=qj (wayO c l) (jc rs.length bg rs) ([],n)∧
  (zu T).call 73 [.ref 0,.sub 1 0 rs.length,fY 2] (hI c ct cp b l bg rs n none) 0 []=some (.bool true,hI c ct cp b l bg rs s.2 (some s.1),fz,[]))∧
 (∀(n:Int) (o:List Int),∃s fz,(fz=0∨fz=1)∧s=qj (wayO c l) (jc rs.length bg rs) (o,n)∧
  ((s=(o,n)∧(zu T).call 73 [.ref 0,.sub 1 0 rs.length,fY 2] (hI c ct cp b l bg rs n (some o)) 0 []=some (.bool true,hI c ct cp b l bg rs n (some o),fz,[]))∨
   (zu T).call 73 [.ref 0,.sub 1 0 rs.length,fY 2] (hI c ct cp b l bg rs n (some o)) 0 []=some (.bool true,hJ c ct cp b l bg rs s.2 o s.1,fz,[])))
theorem zoh(w:List Int→Int)(o:List Int)(s:List Int×Int):kq w s o=if shr (w o) s.2=true then(o,w o)else s:=by
 unfold kq shr;by_cases h:s.2<0∨w o<s.2
 ·rw[if_pos h,if_pos (by simpa using h)]
 ·rw[if_neg h,if_neg (by simpa using h)]
include hc hl
theorem yrz(x:Int)(r:List Int)(ho:uu l.length (x::r))(hol:(x::r).length≤8):zge c ct cp b l (x::r) []:=by
 refine⟨fun n hn=>⟨_,1,.inr rfl,rfl,?_⟩,fun n o=>⟨_,1,.inr rfl,rfl,?_⟩⟩
 ·have hs:shr (wayO c l (x::r)) n=true:=by unfold shr;rw[decide_eq_true hn];rfl
  have e:=ywo hc b l hl x r ho hol n hs
  have hb:qj (wayO c l) (jc ([]:List Int).length (x::r) []) ([],n)=(x::r,wayO c l (x::r)):=by
   show kq _ _ _=_;rw[zoh,if_pos hs]
  rw[hb,zbo];simp only[hI,oR,fY,cI,cC,cL,k8,oC,jk,List.map_cons,zx,List.map_nil,List.nil_append,List.cons_append,List.append_nil]at e⊢;simp -implicitDefEqProofs only[go_sem,simprocAttr,e,x8,x9,x7]
  done
 ·cases hs:shr (wayO c l (x::r)) n
  ·have e:=ywq hc b l hl x r ho hol n o hs
   have hb:qj (wayO c l) (jc ([]:List Int).length (x::r) []) (o,n)=(o,n):=by
    show kq _ _ _=_;rw[zoh,if_neg (by rw[hs];exact Bool.false_ne_true)]
   refine .inl ⟨hb,?_⟩;rw[zbo];simp only[hI,oR,fY,cI,cC,cL,k8,oC,jk,List.map_cons,zx,List.map_nil,List.nil_append,List.cons_append,List.append_nil]at e⊢;simp -implicitDefEqProofs only[go_sem,simprocAttr,e,x8,x9,x7]
   done
  ·have e:=ywp hc b l hl x r ho hol n o hs
   have hb:qj (wayO c l) (jc ([]:List Int).length (x::r) []) (o,n)=(x::r,wayO c l (x::r)):=by
    show kq _ _ _=_;rw[zoh,if_pos hs]
   refine .inr ?_;rw[hb,zbo];simp only[hI,hJ,oR,fY,cI,cC,cL,k8,oC,jk,List.map_cons,zx,List.map_nil,List.nil_append,List.cons_append,List.append_nil]at e⊢;simp -implicitDefEqProofs only[go_sem,simprocAttr,e,x8,x9,x7]
   done
end
end Go.Den.FaT
namespace Go.Den.FaT
open Go Go.Proofs Go.Den
def Lp(fp:Nat)(H:zw)(m k:Nat):Option Out:=(zu T).loop false [.code (.loop zfz),.inBlock 0,.code (.seq zg1 .ret)]
 ⟨73,39,fp,[(0,.ref 0),(1,.sub 1 0 (m+1)),(2,fY 2),(16,.sub 1 0 (m+1)),(17,.int .i64 ((m+1:Nat):Int)),(18,.int .i64 k)],H,0,[]⟩
structure Stp73 (x:Int) (r:List Int) (y:Int) (ys:List Int) (k:Nat) (v:Int) (B R Q Lf:List V):Prop where
 e1:(zu T).call 75 [.sub 0 0 (ys.length+1)] [.cells false true 3 R] 0 []=some (.ref 2,[.cells false true 3 R,.dead,.cells false true 3 Q],0,[])
 e2:(zu T).call 109 [.ref 0,.int .i64 k,.int .i64 ((k+1:Nat):Int)] [.cells false true 3 Q] 0 []=some (.sub 0 0 ys.length,.cells false true 3 Lf::List.replicate 8 .free,0,[])
 e3:(zu T).call 75 [.ref 0] [.cells false true 3 B] 0 []=some (.ref 2,[.cells false true 3 B,.dead,.cells false true 3 B],0,[])
 t1:decide ((k:Int)<((ys.length+1:Nat):Int))=true
 t2:decide (0≤(k:Int)∧(k:Int)<((ys.length+1:Nat):Int))=true
 t3:R[k]? =some (.int .i64 v)
 t4:IntKind.i64.wrap ((k:Int)+1)=((k+1:Nat):Int)
 hr:decide (B.length+1<maxRow)=true
theorem zby(x:Int)(r:List Int)(y:Int)(ys:List Int)(k:Nat)(hk:k<(y::ys).length)(hol:(x::r).length≤8)(hyl:ys.length≤8):
  Stp73 x r y ys k (y::ys)[k] ((x::r).map zx) (((y::ys)++ [0]).map zx) ((y::ys).map zx) (((y::ys).eraseIdx k++ [0]).map zx):=by
 have hk':k<ys.length+1:=by simpa using hk
 refine⟨ywm ys y ((y::ys)++ [0]) 0 (by simp) (by simp) (by omega),?_,ywn r x (by simp at hol;omega),decide_eq_true (by omega),decide_eq_true (by omega),?_,by rw[wrap64]<;>omega,decide_eq_true ?_⟩
 ·have e2:=zhy (y::ys) k hk (by simp;omega)
  have e4:(y::ys).length- 1=ys.length:=by simp
  rw[e4]at e2;rw[show((k+1:Nat):Int)=(k:Int)+1 by omega];exact e2
 ·rw[List.getElem?_map,List.getElem?_append_left hk,List.getElem?_eq_getElem hk];rfl
 ·have:maxRow=16777216:=rfl
  simp at hol⊢;omega
section
variable (c:Int×Int) (ct cp:Int) (b:Bool) (l:List Sd)
theorem yn5(x:Int)(r:List Int)(y:Int)(ys:List Int)(k:Nat)(hk:k<(y::ys).length)(hol:(x::r).length≤8)(hyl:ys.length≤8)(n n':Int)(o':List Int)(fz:Nat)(hfz:fz=0∨fz=1)
  (h:(zu T).call 73 [.ref 0,.sub 1 0 ys.length,fY 2] (hI c ct cp b l ((x::r)++ [(y::ys)[k]]) ((y::ys).eraseIdx k) n none) 0 []=some (.bool true,hI c ct cp b l ((x::r)++ [(y::ys)[k]]) ((y::ys).eraseIdx k) n' (some o'),fz,[])):
  Lp 6 (hI c ct cp b l (x::r) (y::ys) n none) ys.length k=Lp 6 (hI c ct cp b l (x::r) (y::ys) n' (some o')) ys.length (k+1):=by
 obtain⟨e1,e2,e3,t1,t2,t3,t4,hr⟩:=zby x r y ys k hk hol hyl;unfold Lp;rw[zq];simp only[hI,hJ,oR,fY,cI,cC,cL,k8,oC,jk,List.append_nil,List.cons_append,List.nil_append]at h⊢;rw[←List.cons_append,List.map_append (l₁:=x::r)]at h;rw[←List.cons_append];generalize (x::r).map zx=B at*;generalize ((y::ys)++ [0]).map zx=R at*;generalize (y::ys).map zx=Q at*;generalize ((y::ys).eraseIdx k++ [0]).map zx=Lf at*;generalize (y::ys)[k]=v at*;simp only[List.map_cons,List.map_nil,zx]at h;generalize ys.length=m at*;rcases hfz with rfl|rfl
 ·simp -implicitDefEqProofs only[go_sem,simprocAttr,t1,t2,t3,t4,e1,e2,e3,h,x8,x9,x7,hr]
 ·simp -implicitDefEqProofs only[go_sem,simprocAttr,t1,t2,t3,t4,e1,e2,e3,h,x8,x9,x7,hr]
theorem yn4(x:Int)(r:List Int)(y:Int)(ys:List Int)(k:Nat)(hk:k<(y::ys).length)(hol:(x::r).length≤8)(hyl:ys.length≤8)(n:Int)(o:List Int)(fz:Nat)(hfz:fz=0∨fz=1)
  (h:(zu T).call 73 [.ref 0,.sub 1 0 ys.length,fY 2] (hI c ct cp b l ((x::r)++ [(y::ys)[k]]) ((y::ys).eraseIdx k) n (some o)) 0 []=some (.bool true,hI c ct cp b l ((x::r)++ [(y::ys)[k]]) ((y::ys).eraseIdx k) n (some o),fz,[])):
  Lp 6 (hI c ct cp b l (x::r) (y::ys) n (some o)) ys.length k=Lp 6 (hI c ct cp b l (x::r) (y::ys) n (some o)) ys.length (k+1):=by
 obtain⟨e1,e2,e3,t1,t2,t3,t4,hr⟩:=zby x r y ys k hk hol hyl;unfold Lp;rw[zq];simp only[hI,hJ,oR,fY,cI,cC,cL,k8,oC,jk,List.append_nil,List.cons_append,List.nil_append]at h⊢;rw[←List.cons_append,List.map_append (l₁:=x::r)]at h;rw[←List.cons_append];generalize (x::r).map zx=B at*;generalize ((y::ys)++ [0]).map zx=R at*;generalize (y::ys).map zx=Q at*;generalize ((y::ys).eraseIdx k++ [0]).map zx=Lf at*;generalize (y::ys)[k]=v at*;simp only[List.map_cons,List.map_nil,zx]at h;generalize ys.length=m at*;rcases hfz with rfl|rfl
 ·simp -implicitDefEqProofs only[go_sem,simprocAttr,t1,t2,t3,t4,e1,e2,e3,h,x8,x9,x7,hr]
 ·simp -implicitDefEqProofs only[go_sem,simprocAttr,t1,t2,t3,t4,e1,e2,e3,h,x8,x9,x7,hr]
theorem yn6(x:Int)(r:List Int)(y:Int)(ys:List Int)(k:Nat)(hk:k<(y::ys).length)(hol:(x::r).length≤8)(hyl:ys.length≤8)(n n':Int)(o o':List Int)(fz:Nat)(hfz:fz=0∨fz=1)
  (h:(zu T).call 73 [.ref 0,.sub 1 0 ys.length,fY 2] (hI c ct cp b l ((x::r)++ [(y::ys)[k]]) ((y::ys).eraseIdx k) n (some o)) 0 []=some (.bool true,hJ c ct cp b l ((x::r)++ [(y::ys)[k]]) ((y::ys).eraseIdx k) n' o o',fz,[])):
  Lp 6 (hI c ct cp b l (x::r) (y::ys) n (some o)) ys.length k=Lp 6 (hI c ct cp b l (x::r) (y::ys) n' (some o')) ys.length (k+1):=by
 obtain⟨e1,e2,e3,t1,t2,t3,t4,hr⟩:=zby x r y ys k hk hol hyl;unfold Lp;rw[zq];simp only[hI,hJ,oR,fY,cI,cC,cL,k8,oC,jk,List.append_nil,List.cons_append,List.nil_append]at h⊢;rw[←List.cons_append,List.map_append (l₁:=x::r)]at h;rw[←List.cons_append];generalize (x::r).map zx=B at*;generalize ((y::ys)++ [0]).map zx=R at*;generalize (y::ys).map zx=Q at*;generalize ((y::ys).eraseIdx k++ [0]).map zx=Lf at*;generalize (y::ys)[k]=v at*;simp only[List.map_cons,List.map_nil,zx]at h;generalize ys.length=m at*;rcases hfz with rfl|rfl
 ·simp -implicitDefEqProofs only[go_sem,simprocAttr,t1,t2,t3,t4,e1,e2,e3,h,x8,x9,x7,hr]
 ·simp -implicitDefEqProofs only[go_sem,simprocAttr,t1,t2,t3,t4,e1,e2,e3,h,x8,x9,x7,hr]
theorem yn0(x:Int)(r:List Int)(y:Int)(ys:List Int)(k:Nat)(hk:k<(y::ys).length)(hol:(x::r).length≤8)(hyl:ys.length≤8)(n:Int)(o:List Int)(fz:Nat)(hfz:fz=0∨fz=1)
  (h:(zu T).call 73 [.ref 0,.sub 1 0 ys.length,fY 2] (hI c ct cp b l ((x::r)++ [(y::ys)[k]]) ((y::ys).eraseIdx k) n (some o)) 0 []=some (.bool true,hI c ct cp b l ((x::r)++ [(y::ys)[k]]) ((y::ys).eraseIdx k) n (some o),fz,[])):
  Lp 7 (hI c ct cp b l (x::r) (y::ys) n (some o)) ys.length k=Lp 7 (hI c ct cp b l (x::r) (y::ys) n (some o)) ys.length (k+1):=by
 obtain⟨e1,e2,e3,t1,t2,t3,t4,hr⟩:=zby x r y ys k hk hol hyl;unfold Lp;rw[zq];simp only[hI,hJ,oR,fY,cI,cC,cL,k8,oC,jk,List.append_nil,List.cons_append,List.nil_append]at h⊢;rw[←List.cons_append,List.map_append (l₁:=x::r)]at h;rw[←List.cons_append];generalize (x::r).map zx=B at*;generalize ((y::ys)++ [0]).map zx=R at*;generalize (y::ys).map zx=Q at*;generalize ((y::ys).eraseIdx k++ [0]).map zx=Lf at*;generalize (y::ys)[k]=v at*;simp only[List.map_cons,List.map_nil,zx]at h;generalize ys.length=m at*;rcases hfz with rfl|rfl
 ·simp -implicitDefEqProofs only[go_sem,simprocAttr,t1,t2,t3,t4,e1,e2,e3,h,x8,x9,x7,hr]
 ·simp -implicitDefEqProofs only[go_sem,simprocAttr,t1,t2,t3,t4,e1,e2,e3,h,x8,x9,x7,hr]
theorem yn3(x:Int)(r:List Int)(y:Int)(ys:List Int)(k:Nat)(hk:k<(y::ys).length)(hol:(x::r).length≤8)(hyl:ys.length≤8)(n n':Int)(o o':List Int)(fz:Nat)(hfz:fz=0∨fz=1)
  (h:(zu T).call 73 [.ref 0,.sub 1 0 ys.length,fY 2] (hI c ct cp b l ((x::r)++ [(y::ys)[k]]) ((y::ys).eraseIdx k) n (some o)) 0 []=some (.bool true,hJ c ct cp b l ((x::r)++ [(y::ys)[k]]) ((y::ys).eraseIdx k) n' o o',fz,[])):
  Lp 7 (hI c ct cp b l (x::r) (y::ys) n (some o)) ys.length k=Lp 7 (hJ c ct cp b l (x::r) (y::ys) n' o o') ys.length (k+1):=by
 obtain⟨e1,e2,e3,t1,t2,t3,t4,hr⟩:=zby x r y ys k hk hol hyl;unfold Lp;rw[zq];simp only[hI,hJ,oR,fY,cI,cC,cL,k8,oC,jk,List.append_nil,List.cons_append,List.nil_append]at h⊢;rw[←List.cons_append,List.map_append (l₁:=x::r)]at h;rw[←List.cons_append];generalize (x::r).map zx=B at*;generalize ((y::ys)++ [0]).map zx=R at*;generalize (y::ys).map zx=Q at*;generalize ((y::ys).eraseIdx k++ [0]).map zx=Lf at*;generalize (y::ys)[k]=v at*;simp only[List.map_cons,List.map_nil,zx]at h;generalize ys.length=m at*;rcases hfz with rfl|rfl
 ·simp -implicitDefEqProofs only[go_sem,simprocAttr,t1,t2,t3,t4,e1,e2,e3,h,x8,x9,x7,hr]
 ·simp -implicitDefEqProofs only[go_sem,simprocAttr,t1,t2,t3,t4,e1,e2,e3,h,x8,x9,x7,hr]
theorem yn1(x:Int)(r:List Int)(y:Int)(ys:List Int)(k:Nat)(hk:k<(y::ys).length)(hol:(x::r).length≤8)(hyl:ys.length≤8)(n:Int)(o1 o:List Int)(fz:Nat)(hfz:fz=0∨fz=1)
  (h:(zu T).call 73 [.ref 0,.sub 1 0 ys.length,fY 2] (hI c ct cp b l ((x::r)++ [(y::ys)[k]]) ((y::ys).eraseIdx k) n (some o)) 0 []=some (.bool true,hI c ct cp b l ((x::r)++ [(y::ys)[k]]) ((y::ys).eraseIdx k) n (some o),fz,[])):
  Lp 7 (hJ c ct cp b l (x::r) (y::ys) n o1 o) ys.length k=Lp 7 (hJ c ct cp b l (x::r) (y::ys) n o1 o) ys.length (k+1):=by
 obtain⟨e1,e2,e3,t1,t2,t3,t4,hr⟩:=zby x r y ys k hk hol hyl;unfold Lp;rw[zq];simp only[hI,hJ,oR,fY,cI,cC,cL,k8,oC,jk,List.append_nil,List.cons_append,List.nil_append]at h⊢;rw[←List.cons_append,List.map_append (l₁:=x::r)]at h;rw[←List.cons_append];generalize (x::r).map zx=B at*;generalize ((y::ys)++ [0]).map zx=R at*;generalize (y::ys).map zx=Q at*;generalize ((y::ys).eraseIdx k++ [0]).map zx=Lf at*;generalize (y::ys)[k]=v at*;simp only[List.map_cons,List.map_nil,zx]at h;generalize ys.length=m at*;rcases hfz with rfl|rfl
 ·simp -implicitDefEqProofs only[go_sem,simprocAttr,t1,t2,t3,t4,e1,e2,e3,h,x8,x9,x7,hr]
 ·simp -implicitDefEqProofs only[go_sem,simprocAttr,t1,t2,t3,t4,e1,e2,e3,h,x8,x9,x7,hr]
theorem yn2(x:Int)(r:List Int)(y:Int)(ys:List Int)(k:Nat)(hk:k<(y::ys).length)(hol:(x::r).length≤8)(hyl:ys.length≤8)(n n':Int)(o1 o o':List Int)(fz:Nat)(hfz:fz=0∨fz=1)
  (h:(zu T).call 73 [.ref 0,.sub 1 0 ys.length,fY 2] (hI c ct cp b l ((x::r)++ [(y::ys)[k]]) ((y::ys).eraseIdx k) n (some o)) 0 []=some (.bool true,hJ c ct cp b l ((x::r)++ [(y::ys)[k]]) ((y::ys).eraseIdx k) n' o o',fz,[])):
  Lp 7 (hJ c ct cp b l (x::r) (y::ys) n o1 o) ys.length k=Lp 7 (hJ c ct cp b l (x::r) (y::ys) n' o1 o') ys.length (k+1):=by
 obtain⟨e1,e2,e3,t1,t2,t3,t4,hr⟩:=zby x r y ys k hk hol hyl;unfold Lp;rw[zq];simp only[hI,hJ,oR,fY,cI,cC,cL,k8,oC,jk,List.append_nil,List.cons_append,List.nil_append]at h⊢;rw[←List.cons_append,List.map_append (l₁:=x::r)]at h;rw[←List.cons_append];generalize (x::r).map zx=B at*;generalize ((y::ys)++ [0]).map zx=R at*;generalize (y::ys).map zx=Q at*;generalize ((y::ys).eraseIdx k++ [0]).map zx=Lf at*;generalize (y::ys)[k]=v at*;simp only[List.map_cons,List.map_nil,zx]at h;generalize ys.length=m at*;rcases hfz with rfl|rfl
 ·simp -implicitDefEqProofs only[go_sem,simprocAttr,t1,t2,t3,t4,e1,e2,e3,h,x8,x9,x7,hr]
 ·simp -implicitDefEqProofs only[go_sem,simprocAttr,t1,t2,t3,t4,e1,e2,e3,h,x8,x9,x7,hr]
end
end Go.Den.FaT
namespace Go.Den.FaT
open Go Go.Proofs Go.Den
theorem zoy(fp:Nat)(H:zw)(m:Nat):Lp fp H m (m+1)=some (.ret (.bool true),H,0,[]):=by
 unfold Lp;rw[zq];have h1:=xu (m+1);simp -implicitDefEqProofs only[go_sem,simprocAttr,h1]
section
variable (c:Int×Int) (ct cp:Int) (b:Bool) (l:List Sd)
def vj(bg rs:List Int)(m k:Nat):List (List Int):=((List.range (m+1)).drop k).flatMap fun k=>jc m (bg++ [rs.getD k 0]) (rs.eraseIdx k)
theorem zhg(bg rs:List Int)(m:Nat):vj bg rs m (m+1)= []:=by
 unfold vj;rw[List.drop_of_length_le (by simp)];rfl
theorem zdh(bg rs:List Int)(m k:Nat)(hk:k<m+1)(hr:rs.length=m+1):vj bg rs m k=jc m (bg++ [rs[k]]) (rs.eraseIdx k)++vj bg rs m (k+1):=by
 unfold vj;rw[List.drop_eq_getElem_cons (by simpa using hk),List.flatMap_cons];congr 1;rw[List.getElem_range];have:rs.getD k 0=rs[k]:=by simp[List.getD,hr,hk]
 rw[this]
variable (x:Int) (r:List Int) (y:Int) (ys:List Int) (hol:(x::r).length≤8) (hyl:ys.length≤8)
 (IH:∀k (hk:k<(y::ys).length),zge c ct cp b l ((x::r)++ [(y::ys)[k]]) ((y::ys).eraseIdx k))
include hol hyl IH
theorem L6:∀k,k≤ys.length+1→∀(n:Int) (o:List Int),Lp 6 (hI c ct cp b l (x::r) (y::ys) n (some o)) ys.length k=
  some (.ret (.bool true),hI c ct cp b l (x::r) (y::ys) (qj (wayO c l) (vj (x::r) (y::ys) ys.length k) (o,n)).2 (some (qj (wayO c l) (vj (x::r) (y::ys) ys.length k) (o,n)).1),0,[]):=by
 refine xh (ys.length+1) ?_ fun k hk ih=> ?_
 ·intro n o
  rw[zhg,zoy];rfl
 ·intro n o
  have hk':k<(y::ys).length:=by simpa using hk
  have hlen:((y::ys).eraseIdx k).length=ys.length:=by rw[List.length_eraseIdx,if_pos hk'];simp
  obtain⟨s,fz,hfz,hs,h⟩:=(IH k hk').2 n o;rw[hlen]at hs h;rw[zdh _ _ _ _ hk (by simp),zd4,←hs];rcases h with⟨h1,h2⟩|h2
  ·rw[yn4 c ct cp b l x r y ys k hk' hol hyl n o fz hfz h2,ih,h1]
  ·rw[yn6 c ct cp b l x r y ys k hk' hol hyl n s.2 o s.1 fz hfz h2,ih]
theorem L7j:∀k,k≤ys.length+1→∀(n:Int) (o1 o:List Int),Lp 7 (hJ c ct cp b l (x::r) (y::ys) n o1 o) ys.length k=
  some (.ret (.bool true),hJ c ct cp b l (x::r) (y::ys) (qj (wayO c l) (vj (x::r) (y::ys) ys.length k) (o,n)).2 o1 (qj (wayO c l) (vj (x::r) (y::ys) ys.length k) (o,n)).1,0,[]):=by
 refine xh (ys.length+1) ?_ fun k hk ih=> ?_
 ·intro n o1 o
  rw[zhg,zoy];rfl
 ·intro n o1 o
  have hk':k<(y::ys).length:=by simpa using hk
  have hlen:((y::ys).eraseIdx k).length=ys.length:=by rw[List.length_eraseIdx,if_pos hk'];simp
  obtain⟨s,fz,hfz,hs,h⟩:=(IH k hk').2 n o;rw[hlen]at hs h;rw[zdh _ _ _ _ hk (by simp),zd4,←hs];rcases h with⟨h1,h2⟩|h2
  ·rw[yn1 c ct cp b l x r y ys k hk' hol hyl n o1 o fz hfz h2,ih,h1]
  ·rw[yn2 c ct cp b l x r y ys k hk' hol hyl n s.2 o1 o s.1 fz hfz h2,ih]
theorem L7:∀k,k≤ys.length+1→∀(n:Int) (o:List Int),
  (qj (wayO c l) (vj (x::r) (y::ys) ys.length k) (o,n)=(o,n)∧Lp 7 (hI c ct cp b l (x::r) (y::ys) n (some o)) ys.length k=some (.ret (.bool true),hI c ct cp b l (x::r) (y::ys) n (some o),0,[]))∨
  Lp 7 (hI c ct cp b l (x::r) (y::ys) n (some o)) ys.length k=
   some (.ret (.bool true),hJ c ct cp b l (x::r) (y::ys) (qj (wayO c l) (vj (x::r) (y::ys) ys.length k) (o,n)).2 o (qj (wayO c l) (vj (x::r) (y::ys) ys.length k) (o,n)).1,0,[]):=by
 refine xh (ys.length+1) ?_ fun k hk ih=> ?_
 ·intro n o
  rw[zhg,zoy];exact .inl ⟨rfl,rfl⟩
 ·intro n o
  have hk':k<(y::ys).length:=by simpa using hk
  have hlen:((y::ys).eraseIdx k).length=ys.length:=by rw[List.length_eraseIdx,if_pos hk'];simp
  obtain⟨s,fz,hfz,hs,h⟩:=(IH k hk').2 n o;rw[hlen]at hs h;rw[zdh _ _ _ _ hk (by simp),zd4,←hs];rcases h with⟨h1,h2⟩|h2
  ·rw[yn0 c ct cp b l x r y ys k hk' hol hyl n o fz hfz h2,h1]
   exact ih n o
  ·rw[yn3 c ct cp b l x r y ys k hk' hol hyl n s.2 o s.1 fz hfz h2]
   exact .inr (L7j c ct cp b l x r y ys hol hyl IH (k+1) (by omega) s.2 o s.1)
theorem yry:zge c ct cp b l (x::r) (y::ys):=by
 have hd:jc (y::ys).length (x::r) (y::ys)=vj (x::r) (y::ys) ys.length 0:=by
  rfl
 have hne:(((ys.length+1:Nat):Int)==0)=false:=by simp;omega
 refine⟨fun n hn=>⟨_,0,.inl rfl,rfl,?_⟩,fun n o=>⟨_,0,.inl rfl,rfl,?_⟩⟩
 ·rw[hd]
  have hk':0<(y::ys).length:=by simp
  have hlen:((y::ys).eraseIdx 0).length=ys.length:=by simp
  obtain⟨s,fz,hfz,hs,h⟩:=(IH 0 hk').1 n hn;rw[hlen]at hs h;have e:=yn5 c ct cp b l x r y ys 0 hk' hol hyl n s.2 s.1 fz hfz h;rw[L6 c ct cp b l x r y ys hol hyl IH 1 (by omega) s.2 s.1]at e;rw[zdh _ _ _ 0 (by omega) (by simp),zd4,←hs];rw[zbo];unfold Lp at e;simp only[hI,oR,fY,cI,cC,cL,k8,oC,jk,List.append_nil,List.cons_append,List.nil_append,List.length_cons,List.map_cons,zx,show((0:Nat):Int)=0 from rfl]at e⊢;simp -implicitDefEqProofs only[go_sem,simprocAttr,hne,e]
  done
 ·rw[hd]
  rcases L7 c ct cp b l x r y ys hol hyl IH 0 (by omega) n o with⟨h1,e⟩|e
  ·refine .inl ⟨h1,?_⟩
   rw[zbo];unfold Lp at e;simp only[hI,oR,fY,cI,cC,cL,k8,oC,jk,List.append_nil,List.cons_append,List.nil_append,List.length_cons,List.map_cons,zx,show((0:Nat):Int)=0 from rfl]at e⊢;simp -implicitDefEqProofs only[go_sem,simprocAttr,hne,e]
  ·refine .inr ?_
   rw[zbo];unfold Lp at e;simp only[hI,hJ,oR,fY,cI,cC,cL,k8,oC,jk,List.append_nil,List.cons_append,List.nil_append,List.length_cons,List.map_cons,zx,show((0:Nat):Int)=0 from rfl]at e⊢;simp -implicitDefEqProofs only[go_sem,simprocAttr,hne,e]
end
theorem yho{c:Int×Int}{ct cp:Int}(hc:OkC c ct cp)(b:Bool)(l:List Sd)(hl:OkS l):∀(m:Nat) (x:Int) (r rs:List Int),rs.length=m→(x::r).length+rs.length≤8→uu l.length (x::r)→uu l.length rs→zge c ct cp b l (x::r) rs
 |0,x,r,rs,h,hol,ho,_=>by
  have:rs= []:=List.length_eq_zero_iff.1 h;subst this;exact yrz hc b l hl x r ho (by simpa using hol)
 |m+1,x,r,rs,h,hol,ho,hr=>by
  match rs,h with
  |y::ys,h=>
   refine yry c ct cp b l x r y ys (by simp at hol⊢;omega) (by simp at hol;omega) fun k hk=> ?_;have hlen:((y::ys).eraseIdx k).length=m:=by rw[List.length_eraseIdx,if_pos hk];simp at h⊢;exact h
   exact yho hc b l hl m x (r++ [(y::ys)[k]]) ((y::ys).eraseIdx k) hlen (by rw[hlen];simp at hol h⊢;omega)
    (fun i hi=>by
     rw[←List.cons_append]at hi;rcases List.mem_append.1 hi with hi|hi
     ·exact ho i hi
     ·rw[List.mem_singleton.1 hi];exact hr _ (List.getElem_mem hk))
    (fun i hi=>hr i (List.mem_of_mem_eraseIdx hi))
end Go.Den.FaT
namespace Go.Den.FaT
open Go Go.Proofs Go.Den
def hT(c:Int×Int)(ct cp:Int)(b:Bool)(l:List Sd)(n:Int)(o:Option (List Int)):zw:= [cC c ct cp,cL b l,k8 n,oC 4 o]++oR o
def Lt(H:zw)(rs:List Int)(k:Nat):Option Out:=(zu T).loop false [.code (.loop zfz),.inBlock 0,.code (.seq zg1 .ret)]
 ⟨73,39,4,[(0,.sl false 0 []),(1,.sl true 1 (rs.map zx)),(2,fY 0),(16,.sl true 1 (rs.map zx)),(17,.int .i64 rs.length),(18,.int .i64 k)],H,0,[]⟩
theorem xf0(H:zw)(rs:List Int):Lt H rs rs.length=some (.ret (.bool true),H,0,[]):=by
 unfold Lt;rw[zq];have h1:=xu rs.length;simp -implicitDefEqProofs only[go_sem,simprocAttr,h1]
section
variable (c:Int×Int) (ct cp:Int) (b:Bool) (l:List Sd)
theorem ynx(y:Int)(ys:List Int)(k:Nat)(hk:k<(y::ys).length)(hyl:ys.length≤8)(n n':Int)(o':List Int)(fz:Nat)(hfz:fz=0∨fz=1)
  (h:(zu T).call 73 [.ref 0,.sub 1 0 ((y::ys).length- 1),fY 2] (hI c ct cp b l [(y::ys)[k]] ((y::ys).eraseIdx k) n none) 0 []=some (.bool true,hI c ct cp b l [(y::ys)[k]] ((y::ys).eraseIdx k) n' (some o'),fz,[])):
  Lt (hT c ct cp b l n none) (y::ys) k=Lt (hT c ct cp b l n' (some o')) (y::ys) (k+1):=by
 obtain⟨h1,h2,h3,h4,h5⟩:=ze hk (by simp;omega);have e1:=zm0 ys y (by omega);have e2:=zhy (y::ys) k hk (by simp;omega);have e3:=zhw;have hr:decide (1<maxRow)=true:=rfl;rw[show(k:Int)+1=((k+1:Nat):Int) by omega]at e2;unfold Lt;rw[zq];simp only[hT,hI,hJ,oR,fY,cI,cC,cL,k8,oC,jk,List.append_nil,List.cons_append,List.nil_append]at h⊢;have t3:((y::ys).map zx)[k]? =some (.int .i64 (y::ys)[k]):=by rw[List.getElem?_map,h3];rfl
 have t5:((y::ys).map zx).length=(y::ys).length:=List.length_map ..;have t6:zt ((y::ys).map zx)= []:=zdo _ _ fun _=>rfl;generalize (y::ys).map zx=Q at*;generalize ((y::ys).eraseIdx k++ [0]).map zx=Lf at*;generalize (y::ys)[k]=v at*;simp only[List.map_cons,List.map_nil,zx]at h;generalize (y::ys).length=m at*;rcases hfz with rfl|rfl
 ·simp -implicitDefEqProofs only[go_sem,simprocAttr,h1,h2,t3,t5,t6,h4,e1,e2,e3,h,x8,x9,x7,hr]
 ·simp -implicitDefEqProofs only[go_sem,simprocAttr,h1,h2,t3,t5,t6,h4,e1,e2,e3,h,x8,x9,x7,hr]
theorem ynw(y:Int)(ys:List Int)(k:Nat)(hk:k<(y::ys).length)(hyl:ys.length≤8)(n:Int)(o:List Int)(fz:Nat)(hfz:fz=0∨fz=1)
  (h:(zu T).call 73 [.ref 0,.sub 1 0 ((y::ys).length- 1),fY 2] (hI c ct cp b l [(y::ys)[k]] ((y::ys).eraseIdx k) n (some o)) 0 []=some (.bool true,hI c ct cp b l [(y::ys)[k]] ((y::ys).eraseIdx k) n (some o),fz,[])):
  Lt (hT c ct cp b l n (some o)) (y::ys) k=Lt (hT c ct cp b l n (some o)) (y::ys) (k+1):=by
 obtain⟨h1,h2,h3,h4,h5⟩:=ze hk (by simp;omega);have e1:=zm0 ys y (by omega);have e2:=zhy (y::ys) k hk (by simp;omega);have e3:=zhw;have hr:decide (1<maxRow)=true:=rfl;rw[show(k:Int)+1=((k+1:Nat):Int) by omega]at e2;unfold Lt;rw[zq];simp only[hT,hI,hJ,oR,fY,cI,cC,cL,k8,oC,jk,List.append_nil,List.cons_append,List.nil_append]at h⊢;have t3:((y::ys).map zx)[k]? =some (.int .i64 (y::ys)[k]):=by rw[List.getElem?_map,h3];rfl
 have t5:((y::ys).map zx).length=(y::ys).length:=List.length_map ..;have t6:zt ((y::ys).map zx)= []:=zdo _ _ fun _=>rfl;generalize (y::ys).map zx=Q at*;generalize ((y::ys).eraseIdx k++ [0]).map zx=Lf at*;generalize (y::ys)[k]=v at*;simp only[List.map_cons,List.map_nil,zx]at h;generalize (y::ys).length=m at*;rcases hfz with rfl|rfl
 ·simp -implicitDefEqProofs only[go_sem,simprocAttr,h1,h2,t3,t5,t6,h4,e1,e2,e3,h,x8,x9,x7,hr]
 ·simp -implicitDefEqProofs only[go_sem,simprocAttr,h1,h2,t3,t5,t6,h4,e1,e2,e3,h,x8,x9,x7,hr]
theorem yny(y:Int)(ys:List Int)(k:Nat)(hk:k<(y::ys).length)(hyl:ys.length≤8)(n n':Int)(o o':List Int)(fz:Nat)(hfz:fz=0∨fz=1)
  (h:(zu T).call 73 [.ref 0,.sub 1 0 ((y::ys).length- 1),fY 2] (hI c ct cp b l [(y::ys)[k]] ((y::ys).eraseIdx k) n (some o)) 0 []=some (.bool true,hJ c ct cp b l [(y::ys)[k]] ((y::ys).eraseIdx k) n' o o',fz,[])):
  Lt (hT c ct cp b l n (some o)) (y::ys) k=Lt (hT c ct cp b l n' (some o')) (y::ys) (k+1):=by
 obtain⟨h1,h2,h3,h4,h5⟩:=ze hk (by simp;omega);have e1:=zm0 ys y (by omega);have e2:=zhy (y::ys) k hk (by simp;omega);have e3:=zhw;have hr:decide (1<maxRow)=true:=rfl;rw[show(k:Int)+1=((k+1:Nat):Int) by omega]at e2;unfold Lt;rw[zq];simp only[hT,hI,hJ,oR,fY,cI,cC,cL,k8,oC,jk,List.append_nil,List.cons_append,List.nil_append]at h⊢;have t3:((y::ys).map zx)[k]? =some (.int .i64 (y::ys)[k]):=by rw[List.getElem?_map,h3];rfl
 have t5:((y::ys).map zx).length=(y::ys).length:=List.length_map ..;have t6:zt ((y::ys).map zx)= []:=zdo _ _ fun _=>rfl;generalize (y::ys).map zx=Q at*;generalize ((y::ys).eraseIdx k++ [0]).map zx=Lf at*;generalize (y::ys)[k]=v at*;simp only[List.map_cons,List.map_nil,zx]at h;generalize (y::ys).length=m at*;rcases hfz with rfl|rfl
 ·simp -implicitDefEqProofs only[go_sem,simprocAttr,h1,h2,t3,t5,t6,h4,e1,e2,e3,h,x8,x9,x7,hr]
 ·simp -implicitDefEqProofs only[go_sem,simprocAttr,h1,h2,t3,t5,t6,h4,e1,e2,e3,h,x8,x9,x7,hr]
variable (y:Int) (ys:List Int) (hyl:ys.length≤7)
 (IH:∀k (hk:k<(y::ys).length),zge c ct cp b l [(y::ys)[k]] ((y::ys).eraseIdx k))
include hyl IH
theorem LT:∀k,k≤(y::ys).length→∀(n:Int) (o:List Int),Lt (hT c ct cp b l n (some o)) (y::ys) k=
  some (.ret (.bool true),hT c ct cp b l (qj (wayO c l) (vj [] (y::ys) ys.length k) (o,n)).2 (some (qj (wayO c l) (vj [] (y::ys) ys.length k) (o,n)).1),0,[]):=by
 refine xh (y::ys).length ?_ fun k hk ih=> ?_
 ·intro n o
  rw[xf0];rw[show(y::ys).length=ys.length+1 from rfl,zhg];rfl
 ·intro n o
  have hlen:((y::ys).eraseIdx k).length=ys.length:=by rw[List.length_eraseIdx,if_pos hk];simp
  obtain⟨s,fz,hfz,hs,h⟩:=(IH k hk).2 n o;rw[hlen]at hs h;rw[zdh _ _ _ _ (by simpa using hk) (by simp),zd4,List.nil_append,←hs];rcases h with⟨h1,h2⟩|h2
  ·rw[ynw c ct cp b l y ys k hk (by omega) n o fz hfz h2,ih,h1]
  ·rw[yny c ct cp b l y ys k hk (by omega) n s.2 o s.1 fz hfz h2,ih]
theorem k73:(zu T).call 73 [.sl false 0 [],.sl true 1 ((y::ys).map zx),fY 0] (hT c ct cp b l (-1) none) 0 []=
  some (.bool true,hT c ct cp b l (vl (wayO c l) (y::ys)).2 (some (vl (wayO c l) (y::ys)).1),0,[]):=by
 have hd:jc (y::ys).length [] (y::ys)=vj [] (y::ys) ys.length 0:=rfl;have hne:(((y::ys).length:Int)==0)=false:=by simp;omega
 have hk':0<(y::ys).length:=by simp
 have hlen:((y::ys).eraseIdx 0).length=ys.length:=by simp
 obtain⟨s,fz,hfz,hs,h⟩:=(IH 0 hk').1 (-1) (by decide);rw[hlen]at hs h;have e:=ynx c ct cp b l y ys 0 hk' (by omega) (-1) s.2 s.1 fz hfz h;rw[LT c ct cp b l y ys hyl IH 1 (by simp) s.2 s.1]at e;unfold vl;rw[hd,zdh _ _ _ 0 (by omega) (by simp),zd4,List.nil_append,←hs];rw[zbo];unfold Lt at e;simp only[hT,oR,fY,cI,cC,cL,k8,oC,jk,List.append_nil,List.cons_append,List.nil_append,show((0:Nat):Int)=0 from rfl]at e⊢;have t5:((y::ys).map zx).length=(y::ys).length:=List.length_map ..;clear h hs hd hlen hk' IH;generalize (y::ys).map zx=Q at*;generalize (y::ys).length=m at*;simp -implicitDefEqProofs only[go_sem,simprocAttr,hne,t5,e]
end
theorem gm{c:Int×Int}{ct cp:Int}(hc:OkC c ct cp)(b:Bool)(l:List Sd)(hl:OkS l)(y:Int)(ys:List Int)(hyl:ys.length≤7)(ho:uu l.length (y::ys)):
  (zu T).call 36 [jk c ct cp,.sl b 5 (l.map qi),.sl true 1 ((y::ys).map zx)] [] 0 []=some (.tup [.sl true 1 ((vl (wayO c l) (y::ys)).1.map zx),.int .i64 (vl (wayO c l) (y::ys)).2],[],0,[]):=by
 have e:=k73 c ct cp b l y ys hyl fun k hk=>yho hc b l hl ys.length (y::ys)[k] [] ((y::ys).eraseIdx k) (by rw[List.length_eraseIdx,if_pos hk];simp) (by rw[List.length_eraseIdx,if_pos hk];simp;omega)
  (fun i hi=>by rw[List.mem_singleton.1 hi];exact ho _ (List.getElem_mem hk)) (fun i hi=>ho i (List.mem_of_mem_eraseIdx hi))
 rw[yjw];simp only[hT,oR,fY,cI,cC,cL,k8,oC,jk,List.append_nil,List.cons_append,List.nil_append]at e⊢;generalize (y::ys).map zx=Q at*;simp -implicitDefEqProofs only[go_sem,simprocAttr,e,x8,x9,x7]
theorem yik{c:Int×Int}{ct cp:Int}(hc:OkC c ct cp)(b b':Bool)(l:List Sd)(hl:OkS l)(z:Nat):
  (zu T).call 36 [jk c ct cp,.sl b 5 (l.map qi),.sl b' z []] [] 0 []=some (.tup [.sl false 1 [],.int .i64 (wayO c l [])],[],0,[]):=by
 have e1:=ywr hc b l hl (-1) (by decide)
 have e:(zu T).call 73 [.sl false 0 [],.sl b' z [],fY 0] [cC c ct cp,cL b l,k8 (-1),oC 4 none] 0 []=some (.bool true,[cC c ct cp,cL b l,k8 (wayO c l []),.cells true true 39 [.sl false 1 []]],0,[]):=by
  rw[zbo];simp only[fY,cC,cL,k8,oC,jk]at e1⊢;simp -implicitDefEqProofs only[go_sem,simprocAttr,e1,x8,x9,x7]
 rw[yjw];simp only[fY,cC,cL,k8,oC,jk]at e⊢;simp -implicitDefEqProofs only[go_sem,simprocAttr,e,x8,x9,x7]
 done
theorem k11{c:Int×Int}{ct cp:Int}(hc:OkC c ct cp)(b:Bool)(l:List Sd)(hl:OkS l)(y:Int)(ys:List Int)(ho:OkO true l.length (y::ys)):
  (zu T).call 11 [jk c ct cp,.sl b 5 (l.map qi),.sl true 1 ((y::ys).map zx)] [] 0 []=some (.tup [.sl true 1 ((vl (wayO c l) (y::ys)).1.map zx),.int .i64 (vl (wayO c l) (y::ys)).2,.int .i64 0],[],0,[]):=by
 have e1:=k35 hc b true true l hl (y::ys) ho;have e2:=gm hc b l hl y ys (by have:=ho.len;simp at this;omega) ho.ok;simp only[jk]at e1 e2;generalize (y::ys).map zx=Q at*;rw[yj1];simp -implicitDefEqProofs only[go_sem,simprocAttr,e1,e2]
 done
theorem yil{c:Int×Int}{ct cp:Int}(hc:OkC c ct cp)(b b':Bool)(l:List Sd)(hl:OkS l)(z:Nat):
  (zu T).call 11 [jk c ct cp,.sl b 5 (l.map qi),.sl b' z []] [] 0 []=some (.tup [.sl false 1 [],.int .i64 (wayO c l []),.int .i64 0],[],0,[]):=by
 have e1:(zu T).call 35 [jk c ct cp,.sl b 5 (l.map qi),.sl b' z [],.bool true] [] 0 []=some (.int .i64 0,[],0,[]):=by
  have h0:qo [0,0]=0:=rfl;have h1:=k55 c.1 c.2 ct cp;rw[hc.ck]at h1;rw[yjx];simp -implicitDefEqProofs only[go_sem,simprocAttr,k56 b l hl,h1,zb8,h0];rw[zq];simp -implicitDefEqProofs only[go_sem,simprocAttr]
 have e2:=yik hc b b' l hl z;simp only[jk]at e1 e2;rw[yj1];simp -implicitDefEqProofs only[go_sem,simprocAttr,e1,e2]
 done
end Go.Den.FaT
namespace Go.Den.FaT
open Go Go.Proofs Go.Den
structure Cx where
 l00:Int
 l01:Int
 l02:Int
 l10:Int
 l11:Int
 l12:Int
 l20:Int
 l21:Int
 l22:Int
 d0:Int
 d1:Int
 d2:Int
 n:Int
 o:Int
 p00:Int
 p01:Int
 p10:Int
 p11:Int
 p20:Int
 p21:Int
 pr:Int
def xx(z:Int):V:= .int .u16 z
def w8(z:Int):V:= .int .u8 z
def i8(z:Int):V:= .int .i8 z
def zy(be:Bool)(es:List Int)(Y:Cx):V:=
 .agg [.sl be 1 (es.map xx),xx Y.l00,xx Y.l01,xx Y.l02,xx Y.l10,xx Y.l11,xx Y.l12,xx Y.l20,xx Y.l21,xx Y.l22,w8 Y.d0,w8 Y.d1,w8 Y.d2,w8 Y.n,w8 Y.o,i8 Y.p00,i8 Y.p01,i8 Y.p10,i8 Y.p11,i8 Y.p20,i8 Y.p21,w8 Y.pr]
variable (be:Bool) (es:List Int) (Y:Cx) (al:V) (rz:Nat) (rb:Bool) (rp:List Int)
abbrev bx:Row:= .cells true true 72 [zy be es Y]
abbrev pr0:Row:= .cells true true 76 [.agg [.sl false 0 [],.int .i64 Y.n,.sl false 0 []]]
def hd0(k i:Int)(gr:Bool)(V7 V9 V10:V)(R:zw):Option Out:=
 (zu T).loop false [.code (.loop zf4),.inBlock 2,.code (.seq zha (.seq (.seq zg9 (.cond (.tmp 99) zg8 .skip)) (.seq zg7 (.cond (.tmp 111) zg6 .skip)))),.inBlock 1,.code zg5,.inLoop zcs,.inBlock 0,.code (r14_29.seq .ret)]
  ⟨14,119,0,[(1,.sl rb rz (rp.map zx)),(2,.ptr 0 0 0),(4,.ptr 1 0 0),(6,.ptr 2 0 0),(7,V7),(8,.int .i64 k),(9,V9),(10,V10),(11,.bool gr),(20,.int .i64 k),(24,.sl be 1 (es.map xx)),(25,.int .i64 es.length),(26,.int .i64 i)],
   bx be es Y:: .cells true true 76 [al]::pr0 Y::R,0,[]⟩
variable (be:Bool) (es:List Int) (Y:Cx) (al:V) (rz:Nat) (rb:Bool) (rp:List Int)
theorem zd{a:Int}(h: -1000000≤a∧a≤1000000):IntKind.i64.wrap a=a:=w9 h
theorem mx1:decide (1<maxRow)=true:=by decide
theorem uf:decide (2<maxRow)=true:=by decide
theorem ug:decide (3<maxRow)=true:=by decide
theorem zkx(gr:Bool)(N:List Int)(e:Int)(q0:(zu T).call 13 [.sl rb rz (rp.map zx),.int .i64 0] [] 0 []=some (.bool (rp.any fun y=>y==0),[],0,[]))(hes:es[0]? =some e)(he:0≤e∧e≤65535)(hl:0≤Y.l00∧Y.l00≤65535)(hd:0≤Y.d0∧Y.d0≤255):
  hd0 be es Y al rz rb rp 0 0 gr (.sl false 0 []) (.sl false 0 []) (.sl false 0 []) []=hd0 be es Y al rz rb rp 0 1 (gr||decide (Y.n<(bif (rp.any fun y=>y==0)then 0 else min e Y.l00))) (.sl false 0 []) (.ref 3) (.ref 4) ([]++ [.cells false true 3 [.int .i64 (e- (bif (rp.any fun y=>y==0)then 0 else min e Y.l00))],.cells false true 100 [.agg [.int .i64 (max 0 (min e Y.l00- Y.d0)),.int .i64 (min e Y.l00+Y.d0)]]]):=by
 unfold hd0;have h1:decide ((0:Int)<es.length)=true:=decide_eq_true (by have:=(List.getElem?_eq_some_iff.1 hes).1;omega);have z0:=zd (a:=e) (by omega);have z1:=zd (a:=Y.l00) (by omega);have z2:=zd (a:=Y.d0) (by omega);have z3:=zd (a:=min e Y.l00- Y.d0) (by omega);have z4:=zd (a:=min e Y.l00+Y.d0) (by omega);have z5:=zd (a:=e- min e Y.l00) (by omega);have z6:=zd (a:=e- 0) (by omega);have z7:IntKind.i64.wrap (0+1)=1:=rfl;have z8:IntKind.i64.wrap 1=1:=rfl;rw[zq];cases gr<;>cases hb:(rp.any fun y=>y==0)<;>(rw[hb]at q0;simp -implicitDefEqProofs only[go_sem,simprocAttr,zy,xx,w8,i8,h1,q0,hes,z0,z1,z2,z3,z4,z5,z6,z7,z8,mx1,uf,ug,hb,cond_true,cond_false];try rfl)
theorem zpf(gr:Bool)(N:List Int)(e v0 a0 b0:Int)(q0:(zu T).call 13 [.sl rb rz (rp.map zx),.int .i64 0] [] 0 []=some (.bool (rp.any fun y=>y==0),[],0,[]))(hes:es[1]? =some e)(he:0≤e∧e≤65535)(hl:0≤Y.l01∧Y.l01≤65535)(hd:0≤Y.d0∧Y.d0≤255):
  hd0 be es Y al rz rb rp 0 1 gr (.sl false 0 []) (.ref 3) (.ref 4) ([]++ [.cells false true 3 [.int .i64 v0],.cells false true 100 [.agg [.int .i64 a0,.int .i64 b0]]])=hd0 be es Y al rz rb rp 0 2 (gr||decide (Y.n<(bif (rp.any fun y=>y==0)then 0 else min e Y.l01))) (.sl false 0 []) (.ref 3) (.ref 4) ([]++ [.cells false true 3 [.int .i64 v0,.int .i64 (e- (bif (rp.any fun y=>y==0)then 0 else min e Y.l01))],.cells false true 100 [.agg [.int .i64 a0,.int .i64 b0],.agg [.int .i64 (max 0 (min e Y.l01- Y.d0)),.int .i64 (min e Y.l01+Y.d0)]]]):=by
 unfold hd0;have h1:decide ((1:Int)<es.length)=true:=decide_eq_true (by have:=(List.getElem?_eq_some_iff.1 hes).1;omega);have z0:=zd (a:=e) (by omega);have z1:=zd (a:=Y.l01) (by omega);have z2:=zd (a:=Y.d0) (by omega);have z3:=zd (a:=min e Y.l01- Y.d0) (by omega);have z4:=zd (a:=min e Y.l01+Y.d0) (by omega);have z5:=zd (a:=e- min e Y.l01) (by omega);have z6:=zd (a:=e- 0) (by omega);have z7:IntKind.i64.wrap (1+1)=2:=rfl;have z8:IntKind.i64.wrap 2=2:=rfl;rw[zq];cases gr<;>cases hb:(rp.any fun y=>y==0)<;>(rw[hb]at q0;simp -implicitDefEqProofs only[go_sem,simprocAttr,zy,xx,w8,i8,h1,q0,hes,z0,z1,z2,z3,z4,z5,z6,z7,z8,mx1,uf,ug,hb,cond_true,cond_false];try rfl)
theorem yoh(gr:Bool)(N:List Int)(e v0 a0 b0 v1 a1 b1:Int)(q0:(zu T).call 13 [.sl rb rz (rp.map zx),.int .i64 0] [] 0 []=some (.bool (rp.any fun y=>y==0),[],0,[]))(hes:es[2]? =some e)(he:0≤e∧e≤65535)(hl:0≤Y.l02∧Y.l02≤65535)(hd:0≤Y.d0∧Y.d0≤255):
  hd0 be es Y al rz rb rp 0 2 gr (.sl false 0 []) (.ref 3) (.ref 4) ([]++ [.cells false true 3 [.int .i64 v0,.int .i64 v1],.cells false true 100 [.agg [.int .i64 a0,.int .i64 b0],.agg [.int .i64 a1,.int .i64 b1]]])=hd0 be es Y al rz rb rp 0 3 (gr||decide (Y.n<(bif (rp.any fun y=>y==0)then 0 else min e Y.l02))) (.sl false 0 []) (.ref 3) (.ref 4) ([]++ [.cells false true 3 [.int .i64 v0,.int .i64 v1,.int .i64 (e- (bif (rp.any fun y=>y==0)then 0 else min e Y.l02))],.cells false true 100 [.agg [.int .i64 a0,.int .i64 b0],.agg [.int .i64 a1,.int .i64 b1],.agg [.int .i64 (max 0 (min e Y.l02- Y.d0)),.int .i64 (min e Y.l02+Y.d0)]]]):=by
 unfold hd0;have h1:decide ((2:Int)<es.length)=true:=decide_eq_true (by have:=(List.getElem?_eq_some_iff.1 hes).1;omega);have z0:=zd (a:=e) (by omega);have z1:=zd (a:=Y.l02) (by omega);have z2:=zd (a:=Y.d0) (by omega);have z3:=zd (a:=min e Y.l02- Y.d0) (by omega);have z4:=zd (a:=min e Y.l02+Y.d0) (by omega);have z5:=zd (a:=e- min e Y.l02) (by omega);have z6:=zd (a:=e- 0) (by omega);have z7:IntKind.i64.wrap (2+1)=3:=rfl;have z8:IntKind.i64.wrap 3=3:=rfl;rw[zq];cases gr<;>cases hb:(rp.any fun y=>y==0)<;>(rw[hb]at q0;simp -implicitDefEqProofs only[go_sem,simprocAttr,zy,xx,w8,i8,h1,q0,hes,z0,z1,z2,z3,z4,z5,z6,z7,z8,mx1,uf,ug,hb,cond_true,cond_false];try rfl)
variable (be:Bool) (es:List Int) (Y:Cx) (al:V) (vs:List (Bool×List Int)) (cs:List Cz) (rz:Nat) (rb:Bool) (rp:List Int)
def hd1(k i:Int)(gr:Bool)(V7 V9 V10:V)(R:zw):Option Out:=
 (zu T).loop false [.code (.loop zf4),.inBlock 2,.code (.seq zha (.seq (.seq zg9 (.cond (.tmp 99) zg8 .skip)) (.seq zg7 (.cond (.tmp 111) zg6 .skip)))),.inBlock 1,.code zg5,.inLoop zcs,.inBlock 0,.code (r14_29.seq .ret)]
  ⟨14,119,0,[(1,.sl rb rz (rp.map zx)),(2,.ptr 0 0 0),(4,.ptr 1 0 0),(6,.ptr 2 0 0),(7,V7),(8,.int .i64 k),(9,V9),(10,V10),(11,.bool gr),(20,.int .i64 k),(24,.sl be 1 (es.map xx)),(25,.int .i64 es.length),(26,.int .i64 i)],
   bx be es Y:: .cells true true 76 [al]:: .cells true false 76 [.agg [.ref 3,.int .i64 Y.n,.ref 4]]:: .cells false true 39 (vs.map rwV):: .cells false true 103 (cs.map czV)::R,0,[]⟩
theorem zks(gr:Bool)(N:List Int)(e:Int)(q0:(zu T).call 13 [.sl rb rz (rp.map zx),.int .i64 1] [] 0 []=some (.bool (rp.any fun y=>y==1),[],0,[]))(hes:es[0]? =some e)(he:0≤e∧e≤65535)(hl:0≤Y.l10∧Y.l10≤65535)(hd:0≤Y.d1∧Y.d1≤255):
  hd1 be es Y al vs cs rz rb rp 1 0 gr (.sl false 0 []) (.sl false 0 []) (.sl false 0 []) []=hd1 be es Y al vs cs rz rb rp 1 1 (gr||decide (Y.n<(bif (rp.any fun y=>y==1)then 0 else min e Y.l10))) (.sl false 0 []) (.ref 5) (.ref 6) ([]++ [.cells false true 3 [.int .i64 (e- (bif (rp.any fun y=>y==1)then 0 else min e Y.l10))],.cells false true 100 [.agg [.int .i64 (max 0 (min e Y.l10- Y.d1)),.int .i64 (min e Y.l10+Y.d1)]]]):=by
 unfold hd1;have h1:decide ((0:Int)<es.length)=true:=decide_eq_true (by have:=(List.getElem?_eq_some_iff.1 hes).1;omega);have z0:=zd (a:=e) (by omega);have z1:=zd (a:=Y.l10) (by omega);have z2:=zd (a:=Y.d1) (by omega);have z3:=zd (a:=min e Y.l10- Y.d1) (by omega);have z4:=zd (a:=min e Y.l10+Y.d1) (by omega);have z5:=zd (a:=e- min e Y.l10) (by omega);have z6:=zd (a:=e- 0) (by omega);have z7:IntKind.i64.wrap (0+1)=1:=rfl;have z8:IntKind.i64.wrap 1=1:=rfl;rw[zq];cases gr<;>cases hb:(rp.any fun y=>y==1)<;>(rw[hb]at q0;simp -implicitDefEqProofs only[go_sem,simprocAttr,zy,xx,w8,i8,h1,q0,hes,z0,z1,z2,z3,z4,z5,z6,z7,z8,mx1,uf,ug,hb,cond_true,cond_false];try rfl)
theorem zkr(gr:Bool)(N:List Int)(e:Int)(q0:(zu T).call 13 [.sl rb rz (rp.map zx),.int .i64 1] [] 0 []=some (.bool (rp.any fun y=>y==1),[],0,[]))(hes:es[0]? =some e)(he:0≤e∧e≤65535)(hl:0≤Y.l10∧Y.l10≤65535)(hd:0≤Y.d1∧Y.d1≤255):
  hd1 be es Y al vs cs rz rb rp 1 0 gr (.ref 5) (.sl false 0 []) (.sl false 0 []) [.cells false true 3 (N.map zx)]=hd1 be es Y al vs cs rz rb rp 1 1 (gr||decide (Y.n<(bif (rp.any fun y=>y==1)then 0 else min e Y.l10))) (.ref 5) (.ref 6) (.ref 7) ([.cells false true 3 (N.map zx)]++ [.cells false true 3 [.int .i64 (e- (bif (rp.any fun y=>y==1)then 0 else min e Y.l10))],.cells false true 100 [.agg [.int .i64 (max 0 (min e Y.l10- Y.d1)),.int .i64 (min e Y.l10+Y.d1)]]]):=by
 unfold hd1;have h1:decide ((0:Int)<es.length)=true:=decide_eq_true (by have:=(List.getElem?_eq_some_iff.1 hes).1;omega);have z0:=zd (a:=e) (by omega);have z1:=zd (a:=Y.l10) (by omega);have z2:=zd (a:=Y.d1) (by omega);have z3:=zd (a:=min e Y.l10- Y.d1) (by omega);have z4:=zd (a:=min e Y.l10+Y.d1) (by omega);have z5:=zd (a:=e- min e Y.l10) (by omega);have z6:=zd (a:=e- 0) (by omega);have z7:IntKind.i64.wrap (0+1)=1:=rfl;have z8:IntKind.i64.wrap 1=1:=rfl;rw[zq];cases gr<;>cases hb:(rp.any fun y=>y==1)<;>(rw[hb]at q0;simp -implicitDefEqProofs only[go_sem,simprocAttr,zy,xx,w8,i8,h1,q0,hes,z0,z1,z2,z3,z4,z5,z6,z7,z8,mx1,uf,ug,hb,cond_true,cond_false];try rfl)
theorem zpd(gr:Bool)(N:List Int)(e v0 a0 b0:Int)(q0:(zu T).call 13 [.sl rb rz (rp.map zx),.int .i64 1] [] 0 []=some (.bool (rp.any fun y=>y==1),[],0,[]))(hes:es[1]? =some e)(he:0≤e∧e≤65535)(hl:0≤Y.l11∧Y.l11≤65535)(hd:0≤Y.d1∧Y.d1≤255):
  hd1 be es Y al vs cs rz rb rp 1 1 gr (.sl false 0 []) (.ref 5) (.ref 6) ([]++ [.cells false true 3 [.int .i64 v0],.cells false true 100 [.agg [.int .i64 a0,.int .i64 b0]]])=hd1 be es Y al vs cs rz rb rp 1 2 (gr||decide (Y.n<(bif (rp.any fun y=>y==1)then 0 else min e Y.l11))) (.sl false 0 []) (.ref 5) (.ref 6) ([]++ [.cells false true 3 [.int .i64 v0,.int .i64 (e- (bif (rp.any fun y=>y==1)then 0 else min e Y.l11))],.cells false true 100 [.agg [.int .i64 a0,.int .i64 b0],.agg [.int .i64 (max 0 (min e Y.l11- Y.d1)),.int .i64 (min e Y.l11+Y.d1)]]]):=by
 unfold hd1;have h1:decide ((1:Int)<es.length)=true:=decide_eq_true (by have:=(List.getElem?_eq_some_iff.1 hes).1;omega);have z0:=zd (a:=e) (by omega);have z1:=zd (a:=Y.l11) (by omega);have z2:=zd (a:=Y.d1) (by omega);have z3:=zd (a:=min e Y.l11- Y.d1) (by omega);have z4:=zd (a:=min e Y.l11+Y.d1) (by omega);have z5:=zd (a:=e- min e Y.l11) (by omega);have z6:=zd (a:=e- 0) (by omega);have z7:IntKind.i64.wrap (1+1)=2:=rfl;have z8:IntKind.i64.wrap 2=2:=rfl;rw[zq];cases gr<;>cases hb:(rp.any fun y=>y==1)<;>(rw[hb]at q0;simp -implicitDefEqProofs only[go_sem,simprocAttr,zy,xx,w8,i8,h1,q0,hes,z0,z1,z2,z3,z4,z5,z6,z7,z8,mx1,uf,ug,hb,cond_true,cond_false];try rfl)
theorem zpc(gr:Bool)(N:List Int)(e v0 a0 b0:Int)(q0:(zu T).call 13 [.sl rb rz (rp.map zx),.int .i64 1] [] 0 []=some (.bool (rp.any fun y=>y==1),[],0,[]))(hes:es[1]? =some e)(he:0≤e∧e≤65535)(hl:0≤Y.l11∧Y.l11≤65535)(hd:0≤Y.d1∧Y.d1≤255):
  hd1 be es Y al vs cs rz rb rp 1 1 gr (.ref 5) (.ref 6) (.ref 7) ([.cells false true 3 (N.map zx)]++ [.cells false true 3 [.int .i64 v0],.cells false true 100 [.agg [.int .i64 a0,.int .i64 b0]]])=hd1 be es Y al vs cs rz rb rp 1 2 (gr||decide (Y.n<(bif (rp.any fun y=>y==1)then 0 else min e Y.l11))) (.ref 5) (.ref 6) (.ref 7) ([.cells false true 3 (N.map zx)]++ [.cells false true 3 [.int .i64 v0,.int .i64 (e- (bif (rp.any fun y=>y==1)then 0 else min e Y.l11))],.cells false true 100 [.agg [.int .i64 a0,.int .i64 b0],.agg [.int .i64 (max 0 (min e Y.l11- Y.d1)),.int .i64 (min e Y.l11+Y.d1)]]]):=by
 unfold hd1;have h1:decide ((1:Int)<es.length)=true:=decide_eq_true (by have:=(List.getElem?_eq_some_iff.1 hes).1;omega);have z0:=zd (a:=e) (by omega);have z1:=zd (a:=Y.l11) (by omega);have z2:=zd (a:=Y.d1) (by omega);have z3:=zd (a:=min e Y.l11- Y.d1) (by omega);have z4:=zd (a:=min e Y.l11+Y.d1) (by omega);have z5:=zd (a:=e- min e Y.l11) (by omega);have z6:=zd (a:=e- 0) (by omega);have z7:IntKind.i64.wrap (1+1)=2:=rfl;have z8:IntKind.i64.wrap 2=2:=rfl;rw[zq];cases gr<;>cases hb:(rp.any fun y=>y==1)<;>(rw[hb]at q0;simp -implicitDefEqProofs only[go_sem,simprocAttr,zy,xx,w8,i8,h1,q0,hes,z0,z1,z2,z3,z4,z5,z6,z7,z8,mx1,uf,ug,hb,cond_true,cond_false];try rfl)
theorem ynu(gr:Bool)(N:List Int)(e v0 a0 b0 v1 a1 b1:Int)(q0:(zu T).call 13 [.sl rb rz (rp.map zx),.int .i64 1] [] 0 []=some (.bool (rp.any fun y=>y==1),[],0,[]))(hes:es[2]? =some e)(he:0≤e∧e≤65535)(hl:0≤Y.l12∧Y.l12≤65535)(hd:0≤Y.d1∧Y.d1≤255):
  hd1 be es Y al vs cs rz rb rp 1 2 gr (.sl false 0 []) (.ref 5) (.ref 6) ([]++ [.cells false true 3 [.int .i64 v0,.int .i64 v1],.cells false true 100 [.agg [.int .i64 a0,.int .i64 b0],.agg [.int .i64 a1,.int .i64 b1]]])=hd1 be es Y al vs cs rz rb rp 1 3 (gr||decide (Y.n<(bif (rp.any fun y=>y==1)then 0 else min e Y.l12))) (.sl false 0 []) (.ref 5) (.ref 6) ([]++ [.cells false true 3 [.int .i64 v0,.int .i64 v1,.int .i64 (e- (bif (rp.any fun y=>y==1)then 0 else min e Y.l12))],.cells false true 100 [.agg [.int .i64 a0,.int .i64 b0],.agg [.int .i64 a1,.int .i64 b1],.agg [.int .i64 (max 0 (min e Y.l12- Y.d1)),.int .i64 (min e Y.l12+Y.d1)]]]):=by
 unfold hd1;have h1:decide ((2:Int)<es.length)=true:=decide_eq_true (by have:=(List.getElem?_eq_some_iff.1 hes).1;omega);have z0:=zd (a:=e) (by omega);have z1:=zd (a:=Y.l12) (by omega);have z2:=zd (a:=Y.d1) (by omega);have z3:=zd (a:=min e Y.l12- Y.d1) (by omega);have z4:=zd (a:=min e Y.l12+Y.d1) (by omega);have z5:=zd (a:=e- min e Y.l12) (by omega);have z6:=zd (a:=e- 0) (by omega);have z7:IntKind.i64.wrap (2+1)=3:=rfl;have z8:IntKind.i64.wrap 3=3:=rfl;rw[zq];cases gr<;>cases hb:(rp.any fun y=>y==1)<;>(rw[hb]at q0;simp -implicitDefEqProofs only[go_sem,simprocAttr,zy,xx,w8,i8,h1,q0,hes,z0,z1,z2,z3,z4,z5,z6,z7,z8,mx1,uf,ug,hb,cond_true,cond_false];try rfl)
theorem ynt(gr:Bool)(N:List Int)(e v0 a0 b0 v1 a1 b1:Int)(q0:(zu T).call 13 [.sl rb rz (rp.map zx),.int .i64 1] [] 0 []=some (.bool (rp.any fun y=>y==1),[],0,[]))(hes:es[2]? =some e)(he:0≤e∧e≤65535)(hl:0≤Y.l12∧Y.l12≤65535)(hd:0≤Y.d1∧Y.d1≤255):
  hd1 be es Y al vs cs rz rb rp 1 2 gr (.ref 5) (.ref 6) (.ref 7) ([.cells false true 3 (N.map zx)]++ [.cells false true 3 [.int .i64 v0,.int .i64 v1],.cells false true 100 [.agg [.int .i64 a0,.int .i64 b0],.agg [.int .i64 a1,.int .i64 b1]]])=hd1 be es Y al vs cs rz rb rp 1 3 (gr||decide (Y.n<(bif (rp.any fun y=>y==1)then 0 else min e Y.l12))) (.ref 5) (.ref 6) (.ref 7) ([.cells false true 3 (N.map zx)]++ [.cells false true 3 [.int .i64 v0,.int .i64 v1,.int .i64 (e- (bif (rp.any fun y=>y==1)then 0 else min e Y.l12))],.cells false true 100 [.agg [.int .i64 a0,.int .i64 b0],.agg [.int .i64 a1,.int .i64 b1],.agg [.int .i64 (max 0 (min e Y.l12- Y.d1)),.int .i64 (min e Y.l12+Y.d1)]]]):=by
 unfold hd1;have h1:decide ((2:Int)<es.length)=true:=decide_eq_true (by have:=(List.getElem?_eq_some_iff.1 hes).1;omega);have z0:=zd (a:=e) (by omega);have z1:=zd (a:=Y.l12) (by omega);have z2:=zd (a:=Y.d1) (by omega);have z3:=zd (a:=min e Y.l12- Y.d1) (by omega);have z4:=zd (a:=min e Y.l12+Y.d1) (by omega);have z5:=zd (a:=e- min e Y.l12) (by omega);have z6:=zd (a:=e- 0) (by omega);have z7:IntKind.i64.wrap (2+1)=3:=rfl;have z8:IntKind.i64.wrap 3=3:=rfl;rw[zq];cases gr<;>cases hb:(rp.any fun y=>y==1)<;>(rw[hb]at q0;simp -implicitDefEqProofs only[go_sem,simprocAttr,zy,xx,w8,i8,h1,q0,hes,z0,z1,z2,z3,z4,z5,z6,z7,z8,mx1,uf,ug,hb,cond_true,cond_false];try rfl)
variable (be:Bool) (es:List Int) (Y:Cx) (al:V) (vs:List (Bool×List Int)) (cs:List Cz) (rz:Nat) (rb:Bool) (rp:List Int)
theorem zkq(gr:Bool)(N:List Int)(e:Int)(q0:(zu T).call 13 [.sl rb rz (rp.map zx),.int .i64 2] [] 0 []=some (.bool (rp.any fun y=>y==2),[],0,[]))(hes:es[0]? =some e)(he:0≤e∧e≤65535)(hl:0≤Y.l20∧Y.l20≤65535)(hd:0≤Y.d2∧Y.d2≤255):
  hd1 be es Y al vs cs rz rb rp 2 0 gr (.sl false 0 []) (.sl false 0 []) (.sl false 0 []) []=hd1 be es Y al vs cs rz rb rp 2 1 (gr||decide (Y.n<(bif (rp.any fun y=>y==2)then 0 else min e Y.l20))) (.sl false 0 []) (.ref 5) (.ref 6) ([]++ [.cells false true 3 [.int .i64 (e- (bif (rp.any fun y=>y==2)then 0 else min e Y.l20))],.cells false true 100 [.agg [.int .i64 (max 0 (min e Y.l20- Y.d2)),.int .i64 (min e Y.l20+Y.d2)]]]):=by
 unfold hd1;have h1:decide ((0:Int)<es.length)=true:=decide_eq_true (by have:=(List.getElem?_eq_some_iff.1 hes).1;omega);have z0:=zd (a:=e) (by omega);have z1:=zd (a:=Y.l20) (by omega);have z2:=zd (a:=Y.d2) (by omega);have z3:=zd (a:=min e Y.l20- Y.d2) (by omega);have z4:=zd (a:=min e Y.l20+Y.d2) (by omega);have z5:=zd (a:=e- min e Y.l20) (by omega);have z6:=zd (a:=e- 0) (by omega);have z7:IntKind.i64.wrap (0+1)=1:=rfl;have z8:IntKind.i64.wrap 1=1:=rfl;rw[zq];cases gr<;>cases hb:(rp.any fun y=>y==2)<;>(rw[hb]at q0;simp -implicitDefEqProofs only[go_sem,simprocAttr,zy,xx,w8,i8,h1,q0,hes,z0,z1,z2,z3,z4,z5,z6,z7,z8,mx1,uf,ug,hb,cond_true,cond_false];try rfl)
theorem zkp(gr:Bool)(N:List Int)(e:Int)(q0:(zu T).call 13 [.sl rb rz (rp.map zx),.int .i64 2] [] 0 []=some (.bool (rp.any fun y=>y==2),[],0,[]))(hes:es[0]? =some e)(he:0≤e∧e≤65535)(hl:0≤Y.l20∧Y.l20≤65535)(hd:0≤Y.d2∧Y.d2≤255):
  hd1 be es Y al vs cs rz rb rp 2 0 gr (.ref 5) (.sl false 0 []) (.sl false 0 []) [.cells false true 3 (N.map zx)]=hd1 be es Y al vs cs rz rb rp 2 1 (gr||decide (Y.n<(bif (rp.any fun y=>y==2)then 0 else min e Y.l20))) (.ref 5) (.ref 6) (.ref 7) ([.cells false true 3 (N.map zx)]++ [.cells false true 3 [.int .i64 (e- (bif (rp.any fun y=>y==2)then 0 else min e Y.l20))],.cells false true 100 [.agg [.int .i64 (max 0 (min e Y.l20- Y.d2)),.int .i64 (min e Y.l20+Y.d2)]]]):=by
 unfold hd1;have h1:decide ((0:Int)<es.length)=true:=decide_eq_true (by have:=(List.getElem?_eq_some_iff.1 hes).1;omega);have z0:=zd (a:=e) (by omega);have z1:=zd (a:=Y.l20) (by omega);have z2:=zd (a:=Y.d2) (by omega);have z3:=zd (a:=min e Y.l20- Y.d2) (by omega);have z4:=zd (a:=min e Y.l20+Y.d2) (by omega);have z5:=zd (a:=e- min e Y.l20) (by omega);have z6:=zd (a:=e- 0) (by omega);have z7:IntKind.i64.wrap (0+1)=1:=rfl;have z8:IntKind.i64.wrap 1=1:=rfl;rw[zq];cases gr<;>cases hb:(rp.any fun y=>y==2)<;>(rw[hb]at q0;simp -implicitDefEqProofs only[go_sem,simprocAttr,zy,xx,w8,i8,h1,q0,hes,z0,z1,z2,z3,z4,z5,z6,z7,z8,mx1,uf,ug,hb,cond_true,cond_false];try rfl)
theorem zpb(gr:Bool)(N:List Int)(e v0 a0 b0:Int)(q0:(zu T).call 13 [.sl rb rz (rp.map zx),.int .i64 2] [] 0 []=some (.bool (rp.any fun y=>y==2),[],0,[]))(hes:es[1]? =some e)(he:0≤e∧e≤65535)(hl:0≤Y.l21∧Y.l21≤65535)(hd:0≤Y.d2∧Y.d2≤255):
  hd1 be es Y al vs cs rz rb rp 2 1 gr (.sl false 0 []) (.ref 5) (.ref 6) ([]++ [.cells false true 3 [.int .i64 v0],.cells false true 100 [.agg [.int .i64 a0,.int .i64 b0]]])=hd1 be es Y al vs cs rz rb rp 2 2 (gr||decide (Y.n<(bif (rp.any fun y=>y==2)then 0 else min e Y.l21))) (.sl false 0 []) (.ref 5) (.ref 6) ([]++ [.cells false true 3 [.int .i64 v0,.int .i64 (e- (bif (rp.any fun y=>y==2)then 0 else min e Y.l21))],.cells false true 100 [.agg [.int .i64 a0,.int .i64 b0],.agg [.int .i64 (max 0 (min e Y.l21- Y.d2)),.int .i64 (min e Y.l21+Y.d2)]]]):=by
 unfold hd1;have h1:decide ((1:Int)<es.length)=true:=decide_eq_true (by have:=(List.getElem?_eq_some_iff.1 hes).1;omega);have z0:=zd (a:=e) (by omega);have z1:=zd (a:=Y.l21) (by omega);have z2:=zd (a:=Y.d2) (by omega);have z3:=zd (a:=min e Y.l21- Y.d2) (by omega);have z4:=zd (a:=min e Y.l21+Y.d2) (by omega);have z5:=zd (a:=e- min e Y.l21) (by omega);have z6:=zd (a:=e- 0) (by omega);have z7:IntKind.i64.wrap (1+1)=2:=rfl;have z8:IntKind.i64.wrap 2=2:=rfl;rw[zq];cases gr<;>cases hb:(rp.any fun y=>y==2)<;>(rw[hb]at q0;simp -implicitDefEqProofs only[go_sem,simprocAttr,zy,xx,w8,i8,h1,q0,hes,z0,z1,z2,z3,z4,z5,z6,z7,z8,mx1,uf,ug,hb,cond_true,cond_false];try rfl)
theorem zpa(gr:Bool)(N:List Int)(e v0 a0 b0:Int)(q0:(zu T).call 13 [.sl rb rz (rp.map zx),.int .i64 2] [] 0 []=some (.bool (rp.any fun y=>y==2),[],0,[]))(hes:es[1]? =some e)(he:0≤e∧e≤65535)(hl:0≤Y.l21∧Y.l21≤65535)(hd:0≤Y.d2∧Y.d2≤255):
  hd1 be es Y al vs cs rz rb rp 2 1 gr (.ref 5) (.ref 6) (.ref 7) ([.cells false true 3 (N.map zx)]++ [.cells false true 3 [.int .i64 v0],.cells false true 100 [.agg [.int .i64 a0,.int .i64 b0]]])=hd1 be es Y al vs cs rz rb rp 2 2 (gr||decide (Y.n<(bif (rp.any fun y=>y==2)then 0 else min e Y.l21))) (.ref 5) (.ref 6) (.ref 7) ([.cells false true 3 (N.map zx)]++ [.cells false true 3 [.int .i64 v0,.int .i64 (e- (bif (rp.any fun y=>y==2)then 0 else min e Y.l21))],.cells false true 100 [.agg [.int .i64 a0,.int .i64 b0],.agg [.int .i64 (max 0 (min e Y.l21- Y.d2)),.int .i64 (min e Y.l21+Y.d2)]]]):=by
 unfold hd1;have h1:decide ((1:Int)<es.length)=true:=decide_eq_true (by have:=(List.getElem?_eq_some_iff.1 hes).1;omega);have z0:=zd (a:=e) (by omega);have z1:=zd (a:=Y.l21) (by omega);have z2:=zd (a:=Y.d2) (by omega);have z3:=zd (a:=min e Y.l21- Y.d2) (by omega);have z4:=zd (a:=min e Y.l21+Y.d2) (by omega);have z5:=zd (a:=e- min e Y.l21) (by omega);have z6:=zd (a:=e- 0) (by omega);have z7:IntKind.i64.wrap (1+1)=2:=rfl;have z8:IntKind.i64.wrap 2=2:=rfl;rw[zq];cases gr<;>cases hb:(rp.any fun y=>y==2)<;>(rw[hb]at q0;simp -implicitDefEqProofs only[go_sem,simprocAttr,zy,xx,w8,i8,h1,q0,hes,z0,z1,z2,z3,z4,z5,z6,z7,z8,mx1,uf,ug,hb,cond_true,cond_false];try rfl)
theorem yns(gr:Bool)(N:List Int)(e v0 a0 b0 v1 a1 b1:Int)(q0:(zu T).call 13 [.sl rb rz (rp.map zx),.int .i64 2] [] 0 []=some (.bool (rp.any fun y=>y==2),[],0,[]))(hes:es[2]? =some e)(he:0≤e∧e≤65535)(hl:0≤Y.l22∧Y.l22≤65535)(hd:0≤Y.d2∧Y.d2≤255):
  hd1 be es Y al vs cs rz rb rp 2 2 gr (.sl false 0 []) (.ref 5) (.ref 6) ([]++ [.cells false true 3 [.int .i64 v0,.int .i64 v1],.cells false true 100 [.agg [.int .i64 a0,.int .i64 b0],.agg [.int .i64 a1,.int .i64 b1]]])=hd1 be es Y al vs cs rz rb rp 2 3 (gr||decide (Y.n<(bif (rp.any fun y=>y==2)then 0 else min e Y.l22))) (.sl false 0 []) (.ref 5) (.ref 6) ([]++ [.cells false true 3 [.int .i64 v0,.int .i64 v1,.int .i64 (e- (bif (rp.any fun y=>y==2)then 0 else min e Y.l22))],.cells false true 100 [.agg [.int .i64 a0,.int .i64 b0],.agg [.int .i64 a1,.int .i64 b1],.agg [.int .i64 (max 0 (min e Y.l22- Y.d2)),.int .i64 (min e Y.l22+Y.d2)]]]):=by
 unfold hd1;have h1:decide ((2:Int)<es.length)=true:=decide_eq_true (by have:=(List.getElem?_eq_some_iff.1 hes).1;omega);have z0:=zd (a:=e) (by omega);have z1:=zd (a:=Y.l22) (by omega);have z2:=zd (a:=Y.d2) (by omega);have z3:=zd (a:=min e Y.l22- Y.d2) (by omega);have z4:=zd (a:=min e Y.l22+Y.d2) (by omega);have z5:=zd (a:=e- min e Y.l22) (by omega);have z6:=zd (a:=e- 0) (by omega);have z7:IntKind.i64.wrap (2+1)=3:=rfl;have z8:IntKind.i64.wrap 3=3:=rfl;rw[zq];cases gr<;>cases hb:(rp.any fun y=>y==2)<;>(rw[hb]at q0;simp -implicitDefEqProofs only[go_sem,simprocAttr,zy,xx,w8,i8,h1,q0,hes,z0,z1,z2,z3,z4,z5,z6,z7,z8,mx1,uf,ug,hb,cond_true,cond_false];try rfl)
theorem ynr(gr:Bool)(N:List Int)(e v0 a0 b0 v1 a1 b1:Int)(q0:(zu T).call 13 [.sl rb rz (rp.map zx),.int .i64 2] [] 0 []=some (.bool (rp.any fun y=>y==2),[],0,[]))(hes:es[2]? =some e)(he:0≤e∧e≤65535)(hl:0≤Y.l22∧Y.l22≤65535)(hd:0≤Y.d2∧Y.d2≤255):
  hd1 be es Y al vs cs rz rb rp 2 2 gr (.ref 5) (.ref 6) (.ref 7) ([.cells false true 3 (N.map zx)]++ [.cells false true 3 [.int .i64 v0,.int .i64 v1],.cells false true 100 [.agg [.int .i64 a0,.int .i64 b0],.agg [.int .i64 a1,.int .i64 b1]]])=hd1 be es Y al vs cs rz rb rp 2 3 (gr||decide (Y.n<(bif (rp.any fun y=>y==2)then 0 else min e Y.l22))) (.ref 5) (.ref 6) (.ref 7) ([.cells false true 3 (N.map zx)]++ [.cells false true 3 [.int .i64 v0,.int .i64 v1,.int .i64 (e- (bif (rp.any fun y=>y==2)then 0 else min e Y.l22))],.cells false true 100 [.agg [.int .i64 a0,.int .i64 b0],.agg [.int .i64 a1,.int .i64 b1],.agg [.int .i64 (max 0 (min e Y.l22- Y.d2)),.int .i64 (min e Y.l22+Y.d2)]]]):=by
 unfold hd1;have h1:decide ((2:Int)<es.length)=true:=decide_eq_true (by have:=(List.getElem?_eq_some_iff.1 hes).1;omega);have z0:=zd (a:=e) (by omega);have z1:=zd (a:=Y.l22) (by omega);have z2:=zd (a:=Y.d2) (by omega);have z3:=zd (a:=min e Y.l22- Y.d2) (by omega);have z4:=zd (a:=min e Y.l22+Y.d2) (by omega);have z5:=zd (a:=e- min e Y.l22) (by omega);have z6:=zd (a:=e- 0) (by omega);have z7:IntKind.i64.wrap (2+1)=3:=rfl;have z8:IntKind.i64.wrap 3=3:=rfl;rw[zq];cases gr<;>cases hb:(rp.any fun y=>y==2)<;>(rw[hb]at q0;simp -implicitDefEqProofs only[go_sem,simprocAttr,zy,xx,w8,i8,h1,q0,hes,z0,z1,z2,z3,z4,z5,z6,z7,z8,mx1,uf,ug,hb,cond_true,cond_false];try rfl)
variable (be:Bool) (es:List Int) (Y:Cx) (al:V) (vs:List (Bool×List Int)) (cs:List Cz) (rz:Nat) (rb:Bool) (rp:List Int)
theorem zko(k:Int)(gr:Bool)(N:List Int)(e:Int)(q0:(zu T).call 13 [.sl rb rz (rp.map zx),.int .i64 k] [] 0 []=some (.bool (rp.any fun y=>y==k),[],0,[]))(hes:es[0]? =some e)(he:0≤e∧e≤65535)(hn:0≤Y.n∧Y.n≤255)(hk:3≤k):
  hd1 be es Y al vs cs rz rb rp k 0 gr (.sl false 0 []) (.sl false 0 []) (.sl false 0 []) []=hd1 be es Y al vs cs rz rb rp k 1 gr (.sl false 0 []) (.ref 5) (.ref 6) ([]++ [.cells false true 3 [.int .i64 (e- 0)],.cells false true 100 [.agg [.int .i64 (Y.n+1),.int .i64 (Y.n+50)]]]):=by
 unfold hd1;have h1:decide ((0:Int)<es.length)=true:=decide_eq_true (by have:=(List.getElem?_eq_some_iff.1 hes).1;omega);have z0:=zd (a:=e) (by omega);have z1:=zd (a:=Y.n+1) (by omega);have z2:=zd (a:=Y.n+50) (by omega);have z3:decide (k<3)=false:=decide_eq_false (by omega);have z4:decide (Y.n<0)=false:=decide_eq_false (by omega);have z5:=z0;have z6:=zd (a:=e- 0) (by omega);have z7:IntKind.i64.wrap (0+1)=1:=rfl;have z8:IntKind.i64.wrap 1=1:=rfl;rw[zq];cases gr<;>cases hb:(rp.any fun y=>y==k)<;>(rw[hb]at q0;simp -implicitDefEqProofs only[go_sem,simprocAttr,zy,xx,w8,i8,h1,q0,hes,z0,z1,z2,z3,z4,z5,z6,z7,z8,mx1,uf,ug,hb,cond_true,cond_false];try rfl)
theorem zkn(k:Int)(gr:Bool)(N:List Int)(e:Int)(q0:(zu T).call 13 [.sl rb rz (rp.map zx),.int .i64 k] [] 0 []=some (.bool (rp.any fun y=>y==k),[],0,[]))(hes:es[0]? =some e)(he:0≤e∧e≤65535)(hn:0≤Y.n∧Y.n≤255)(hk:3≤k):
  hd1 be es Y al vs cs rz rb rp k 0 gr (.ref 5) (.sl false 0 []) (.sl false 0 []) [.cells false true 3 (N.map zx)]=hd1 be es Y al vs cs rz rb rp k 1 gr (.ref 5) (.ref 6) (.ref 7) ([.cells false true 3 (N.map zx)]++ [.cells false true 3 [.int .i64 (e- 0)],.cells false true 100 [.agg [.int .i64 (Y.n+1),.int .i64 (Y.n+50)]]]):=by
 unfold hd1;have h1:decide ((0:Int)<es.length)=true:=decide_eq_true (by have:=(List.getElem?_eq_some_iff.1 hes).1;omega);have z0:=zd (a:=e) (by omega);have z1:=zd (a:=Y.n+1) (by omega);have z2:=zd (a:=Y.n+50) (by omega);have z3:decide (k<3)=false:=decide_eq_false (by omega);have z4:decide (Y.n<0)=false:=decide_eq_false (by omega);have z5:=z0;have z6:=zd (a:=e- 0) (by omega);have z7:IntKind.i64.wrap (0+1)=1:=rfl;have z8:IntKind.i64.wrap 1=1:=rfl;rw[zq];cases gr<;>cases hb:(rp.any fun y=>y==k)<;>(rw[hb]at q0;simp -implicitDefEqProofs only[go_sem,simprocAttr,zy,xx,w8,i8,h1,q0,hes,z0,z1,z2,z3,z4,z5,z6,z7,z8,mx1,uf,ug,hb,cond_true,cond_false];try rfl)
theorem zo9(k:Int)(gr:Bool)(N:List Int)(e v0 a0 b0:Int)(q0:(zu T).call 13 [.sl rb rz (rp.map zx),.int .i64 k] [] 0 []=some (.bool (rp.any fun y=>y==k),[],0,[]))(hes:es[1]? =some e)(he:0≤e∧e≤65535)(hn:0≤Y.n∧Y.n≤255)(hk:3≤k):
  hd1 be es Y al vs cs rz rb rp k 1 gr (.sl false 0 []) (.ref 5) (.ref 6) ([]++ [.cells false true 3 [.int .i64 v0],.cells false true 100 [.agg [.int .i64 a0,.int .i64 b0]]])=hd1 be es Y al vs cs rz rb rp k 2 gr (.sl false 0 []) (.ref 5) (.ref 6) ([]++ [.cells false true 3 [.int .i64 v0,.int .i64 (e- 0)],.cells false true 100 [.agg [.int .i64 a0,.int .i64 b0],.agg [.int .i64 (Y.n+1),.int .i64 (Y.n+50)]]]):=by
 unfold hd1;have h1:decide ((1:Int)<es.length)=true:=decide_eq_true (by have:=(List.getElem?_eq_some_iff.1 hes).1;omega);have z0:=zd (a:=e) (by omega);have z1:=zd (a:=Y.n+1) (by omega);have z2:=zd (a:=Y.n+50) (by omega);have z3:decide (k<3)=false:=decide_eq_false (by omega);have z4:decide (Y.n<0)=false:=decide_eq_false (by omega);have z5:=z0;have z6:=zd (a:=e- 0) (by omega);have z7:IntKind.i64.wrap (1+1)=2:=rfl;have z8:IntKind.i64.wrap 2=2:=rfl;rw[zq];cases gr<;>cases hb:(rp.any fun y=>y==k)<;>(rw[hb]at q0;simp -implicitDefEqProofs only[go_sem,simprocAttr,zy,xx,w8,i8,h1,q0,hes,z0,z1,z2,z3,z4,z5,z6,z7,z8,mx1,uf,ug,hb,cond_true,cond_false];try rfl)
theorem zo8(k:Int)(gr:Bool)(N:List Int)(e v0 a0 b0:Int)(q0:(zu T).call 13 [.sl rb rz (rp.map zx),.int .i64 k] [] 0 []=some (.bool (rp.any fun y=>y==k),[],0,[]))(hes:es[1]? =some e)(he:0≤e∧e≤65535)(hn:0≤Y.n∧Y.n≤255)(hk:3≤k):
  hd1 be es Y al vs cs rz rb rp k 1 gr (.ref 5) (.ref 6) (.ref 7) ([.cells false true 3 (N.map zx)]++ [.cells false true 3 [.int .i64 v0],.cells false true 100 [.agg [.int .i64 a0,.int .i64 b0]]])=hd1 be es Y al vs cs rz rb rp k 2 gr (.ref 5) (.ref 6) (.ref 7) ([.cells false true 3 (N.map zx)]++ [.cells false true 3 [.int .i64 v0,.int .i64 (e- 0)],.cells false true 100 [.agg [.int .i64 a0,.int .i64 b0],.agg [.int .i64 (Y.n+1),.int .i64 (Y.n+50)]]]):=by
 unfold hd1;have h1:decide ((1:Int)<es.length)=true:=decide_eq_true (by have:=(List.getElem?_eq_some_iff.1 hes).1;omega);have z0:=zd (a:=e) (by omega);have z1:=zd (a:=Y.n+1) (by omega);have z2:=zd (a:=Y.n+50) (by omega);have z3:decide (k<3)=false:=decide_eq_false (by omega);have z4:decide (Y.n<0)=false:=decide_eq_false (by omega);have z5:=z0;have z6:=zd (a:=e- 0) (by omega);have z7:IntKind.i64.wrap (1+1)=2:=rfl;have z8:IntKind.i64.wrap 2=2:=rfl;rw[zq];cases gr<;>cases hb:(rp.any fun y=>y==k)<;>(rw[hb]at q0;simp -implicitDefEqProofs only[go_sem,simprocAttr,zy,xx,w8,i8,h1,q0,hes,z0,z1,z2,z3,z4,z5,z6,z7,z8,mx1,uf,ug,hb,cond_true,cond_false];try rfl)
theorem ynq(k:Int)(gr:Bool)(N:List Int)(e v0 a0 b0 v1 a1 b1:Int)(q0:(zu T).call 13 [.sl rb rz (rp.map zx),.int .i64 k] [] 0 []=some (.bool (rp.any fun y=>y==k),[],0,[]))(hes:es[2]? =some e)(he:0≤e∧e≤65535)(hn:0≤Y.n∧Y.n≤255)(hk:3≤k):
  hd1 be es Y al vs cs rz rb rp k 2 gr (.sl false 0 []) (.ref 5) (.ref 6) ([]++ [.cells false true 3 [.int .i64 v0,.int .i64 v1],.cells false true 100 [.agg [.int .i64 a0,.int .i64 b0],.agg [.int .i64 a1,.int .i64 b1]]])=hd1 be es Y al vs cs rz rb rp k 3 gr (.sl false 0 []) (.ref 5) (.ref 6) ([]++ [.cells false true 3 [.int .i64 v0,.int .i64 v1,.int .i64 (e- 0)],.cells false true 100 [.agg [.int .i64 a0,.int .i64 b0],.agg [.int .i64 a1,.int .i64 b1],.agg [.int .i64 (Y.n+1),.int .i64 (Y.n+50)]]]):=by
 unfold hd1;have h1:decide ((2:Int)<es.length)=true:=decide_eq_true (by have:=(List.getElem?_eq_some_iff.1 hes).1;omega);have z0:=zd (a:=e) (by omega);have z1:=zd (a:=Y.n+1) (by omega);have z2:=zd (a:=Y.n+50) (by omega);have z3:decide (k<3)=false:=decide_eq_false (by omega);have z4:decide (Y.n<0)=false:=decide_eq_false (by omega);have z5:=z0;have z6:=zd (a:=e- 0) (by omega);have z7:IntKind.i64.wrap (2+1)=3:=rfl;have z8:IntKind.i64.wrap 3=3:=rfl;rw[zq];cases gr<;>cases hb:(rp.any fun y=>y==k)<;>(rw[hb]at q0;simp -implicitDefEqProofs only[go_sem,simprocAttr,zy,xx,w8,i8,h1,q0,hes,z0,z1,z2,z3,z4,z5,z6,z7,z8,mx1,uf,ug,hb,cond_true,cond_false];try rfl)
theorem ynp(k:Int)(gr:Bool)(N:List Int)(e v0 a0 b0 v1 a1 b1:Int)(q0:(zu T).call 13 [.sl rb rz (rp.map zx),.int .i64 k] [] 0 []=some (.bool (rp.any fun y=>y==k),[],0,[]))(hes:es[2]? =some e)(he:0≤e∧e≤65535)(hn:0≤Y.n∧Y.n≤255)(hk:3≤k):
  hd1 be es Y al vs cs rz rb rp k 2 gr (.ref 5) (.ref 6) (.ref 7) ([.cells false true 3 (N.map zx)]++ [.cells false true 3 [.int .i64 v0,.int .i64 v1],.cells false true 100 [.agg [.int .i64 a0,.int .i64 b0],.agg [.int .i64 a1,.int .i64 b1]]])=hd1 be es Y al vs cs rz rb rp k 3 gr (.ref 5) (.ref 6) (.ref 7) ([.cells false true 3 (N.map zx)]++ [.cells false true 3 [.int .i64 v0,.int .i64 v1,.int .i64 (e- 0)],.cells false true 100 [.agg [.int .i64 a0,.int .i64 b0],.agg [.int .i64 a1,.int .i64 b1],.agg [.int .i64 (Y.n+1),.int .i64 (Y.n+50)]]]):=by
 unfold hd1;have h1:decide ((2:Int)<es.length)=true:=decide_eq_true (by have:=(List.getElem?_eq_some_iff.1 hes).1;omega);have z0:=zd (a:=e) (by omega);have z1:=zd (a:=Y.n+1) (by omega);have z2:=zd (a:=Y.n+50) (by omega);have z3:decide (k<3)=false:=decide_eq_false (by omega);have z4:decide (Y.n<0)=false:=decide_eq_false (by omega);have z5:=z0;have z6:=zd (a:=e- 0) (by omega);have z7:IntKind.i64.wrap (2+1)=3:=rfl;have z8:IntKind.i64.wrap 3=3:=rfl;rw[zq];cases gr<;>cases hb:(rp.any fun y=>y==k)<;>(rw[hb]at q0;simp -implicitDefEqProofs only[go_sem,simprocAttr,zy,xx,w8,i8,h1,q0,hes,z0,z1,z2,z3,z4,z5,z6,z7,z8,mx1,uf,ug,hb,cond_true,cond_false];try rfl)
end Go.Den.FaT
end
