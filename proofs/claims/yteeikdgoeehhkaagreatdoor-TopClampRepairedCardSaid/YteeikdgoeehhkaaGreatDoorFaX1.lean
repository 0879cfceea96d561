import Derived.Test.YteeikdgoeehhkaaGreatDoorFaS0
import Derived.Test.YteeikdgoeehhkaaGreatDoorZP
import Derived.Test.YteeikdgoeehhkaaGreatDoorZR
set_option linter.all false
set_option maxHeartbeats 8000000
set_option maxRecDepth 100000
noncomputable section
namespace Go.Den.FaT
open Go Go.Proofs Go.Den
theorem jl(b:Bool)(e:Int):(zu T).call 29 [.bool b,.int .i64 e] [] 0 []=some (.int .i64 (cond b e 0),[],0,[]):=by
 rw[xak];cases b
 ·simp -implicitDefEqProofs only[go_sem,simprocAttr]
 ·simp -implicitDefEqProofs only[go_sem,simprocAttr]
theorem zit(n a b:Int):(zu T).call 47 [.int .i64 n,.int .i64 a,.int .i64 b] [] 0 []=some (.int .i64 (uj n a b),[],0,[]):=by
 rw[xab];cases h:decide (n<a)
 ·simp -implicitDefEqProofs only[go_sem,simprocAttr,h,jl,uj]
 ·simp -implicitDefEqProofs only[go_sem,simprocAttr,h,jl,uj]
theorem yvf(b:Bool)(l:List Int)(hb:l.length<4611686018427387904):∀i,i≤l.length→(zu T).loop false [.code (.loop zjg),.inBlock 0,.code (.seq zlw .ret)] ⟨24,15,0,[(5,.sl b 1 (l.map fun n=> .int .i64 n)),(6,.int .i64 l.length),(7,.int .i64 i)],[],0,[]⟩=some (.ret (.int .i64 (qo (l.drop i))),[],0,[]):=by
 refine xh l.length ?_ fun i hi ih=> ?_
 ·rw[zq]
  have h1:=xu l.length;simp -implicitDefEqProofs only[go_sem,simprocAttr,h1];simp[qo]
 ·obtain⟨h1,h2,h3,h4,h5⟩:=ze hi hb
  rw[zq,h5];cases h6:(l[i] !=0)
  ·have h7:l[i]=0:=by simpa using h6
   simp -implicitDefEqProofs only[go_sem,simprocAttr,h1,h2,h3,h4,h6,ih];simp[qo,h7]
  ·have h7:l[i]≠0:=by simpa using h6
   simp -implicitDefEqProofs only[go_sem,simprocAttr,h1,h2,h3,h4,h6];simp[qo,h7]
theorem za3(b:Bool)(l:List Int)(hb:l.length<4611686018427387904):(zu T).call 24 [.sl b 1 (l.map fun n=> .int .i64 n)] [] 0 []=some (.int .i64 (qo l),[],0,[]):=by
 rw[xal];have h:=yvf b l hb 0 (by omega);rw[show((0:Nat):Int)=0 from rfl,List.drop_zero]at h;simp -implicitDefEqProofs only[go_sem,simprocAttr,h]
theorem ziq(b:Bool)(x y:Int):(zu T).call 24 [.sl b 1 [.int .i64 x,.int .i64 y]] [] 0 []=some (.int .i64 (qo [x,y]),[],0,[]):=za3 b [x,y] (by simp)
theorem zd2(b:Bool)(x y z:Int):(zu T).call 24 [.sl b 1 [.int .i64 x,.int .i64 y,.int .i64 z]] [] 0 []=some (.int .i64 (qo [x,y,z]),[],0,[]):=za3 b [x,y,z] (by simp)
theorem xdx(b:Bool)(x y z u:Int):(zu T).call 24 [.sl b 1 [.int .i64 x,.int .i64 y,.int .i64 z,.int .i64 u]] [] 0 []=some (.int .i64 (qo [x,y,z,u]),[],0,[]):=za3 b [x,y,z,u] (by simp)
theorem zod(n k:Int):(zu T).call 33 [.int .i64 n,.int .i64 k] [] 0 []=some (.int .i64 (qo [cond (n==0) 12 0,cond (decide (k<n)) 5 0]),[],0,[]):=by
 rw[xaj];simp -implicitDefEqProofs only[go_sem,simprocAttr,jl,ziq]
def zx(n:Int):V:= .int .i64 n
attribute [go_sem] zx
theorem qw{l:List Int}:qo l=0↔∀x∈l,x=0:=by
 induction l with
 |nil=>simp[qo]
 |cons x l ih=>
  simp only[qo];by_cases h:x=0
  ·simp[h,ih]
  ·simp[h]
def uy(n:Int):Int:=uj n 0 1000000
theorem xcq(n:Int):uj n 0 1000000=uy n:=rfl
theorem ziv(n:Int):(zu T).call 81 [.int .i64 n] [] 0 []=some (.int .i64 (uy n),[],0,[]):=by
 rw[yzr];simp -implicitDefEqProofs only[go_sem,simprocAttr,zit,xcq]
def v9(x:Int×Int):V:= .agg [.int .i64 x.1,.int .i64 x.2]
attribute [go_sem] v9
def g7(x:Int×Int):Int:=qo [uy x.1,uy x.2,cond (decide (x.2<x.1)) 11 0]
theorem xcp(x:Int×Int):qo [uy x.1,uy x.2,cond (decide (x.2<x.1)) 11 0]=g7 x:=rfl
theorem ykw(x:Int×Int):(zu T).call 122 [.agg [.int .i64 x.1,.int .i64 x.2]] [] 0 []=some (.int .i64 (g7 x),[],0,[]):=by
 rw[xa1];simp -implicitDefEqProofs only[go_sem,simprocAttr,ziv,jl,zd2,xcp]
theorem yu3(b:Bool)(l:List (Int×Int))(hb:l.length<1000000):∀i,i≤l.length→∀o:Option (List (Int)),u4 o=i→
  (zu T).loop false [.code (.loop zjl),.inBlock 0,.code (.seq zl2 .ret)] ⟨121,22,0,[(1,.fn 122 []),(5,u9 o 0),(8,.sl b 2 (l.map v9)),(9,.int .i64 l.length),(10,.int .i64 i)],gz zx o 41,0,[]⟩=
   some (.ret (uz zx 0 1 (vm o ((l.drop i).map (fun x=>g7 x)))),[],0,[]):=by
 refine xh l.length ?_ fun i hi ih o ho=> ?_
 ·intro o ho
  rw[zq];have h1:=xu l.length;cases o with
  |none=>
   simp -implicitDefEqProofs only[go_sem,simprocAttr,h1];simp[vm,uz]
  |some a=>
   simp -implicitDefEqProofs only[go_sem,simprocAttr,h1];simp[vm,uz]
 ·obtain⟨h1,h2,h3,h4,h5⟩:=ze hi (by omega)
  rw[zq,h5];have ih':=ih (vm o [((fun x=>g7 x) l[i])]) (by rw[kf,ho];rfl);rw[kn]at ih';dsimp only at ih';cases o with
  |none=>
   have h8:=xf (n:=0) (by omega);simp only[km,qd,qm,List.map_cons,List.map_nil,zx]at ih';simp -implicitDefEqProofs only[go_sem,simprocAttr,h1,h2,h3,h4,ih',h8.2,ykw]
  |some a=>
   have h9:a.length=i:=ho;have h8:=(xf (n:=a.length) (by omega)).1;simp only[kp,qd,qm,List.map_append,List.map_cons,List.map_nil,zx]at ih';simp -implicitDefEqProofs only[go_sem,simprocAttr,h1,h2,h3,h4,ih',h8,ykw]
theorem xei(b:Bool)(l:List (Int×Int))(hb:l.length<1000000):(zu T).call 121 [.sl b 2 (l.map v9),.fn 122 []] [] 0 []=some (k7 1 (((l).map (fun x=>g7 x)).map zx),[],0,[]):=by
 rw[xa2];have h:=yu3 b l hb 0 (by omega) none rfl;rw[show((0:Nat):Int)=0 from rfl,List.drop_zero,zal]at h;simp only[vz,vx]at h;simp -implicitDefEqProofs only[go_sem,simprocAttr,h]
theorem yve(b:Bool)(l:List (Int))(hb:l.length<1000000):∀i,i≤l.length→∀o:Option (List (Int)),u4 o=i→
  (zu T).loop false [.code (.loop zi6),.inBlock 0,.code (.seq zlj .ret)] ⟨80,22,0,[(1,.fn 81 []),(5,u9 o 0),(8,.sl b 1 (l.map zx)),(9,.int .i64 l.length),(10,.int .i64 i)],gz zx o 41,0,[]⟩=
   some (.ret (uz zx 0 1 (vm o ((l.drop i).map (fun x=>uy x)))),[],0,[]):=by
 refine xh l.length ?_ fun i hi ih o ho=> ?_
 ·intro o ho
  rw[zq];have h1:=xu l.length;cases o with
  |none=>
   simp -implicitDefEqProofs only[go_sem,simprocAttr,h1];simp[vm,uz]
  |some a=>
   simp -implicitDefEqProofs only[go_sem,simprocAttr,h1];simp[vm,uz]
 ·obtain⟨h1,h2,h3,h4,h5⟩:=ze hi (by omega)
  rw[zq,h5];have ih':=ih (vm o [((fun x=>uy x) l[i])]) (by rw[kf,ho];rfl);rw[kn]at ih';dsimp only at ih';cases o with
  |none=>
   have h8:=xf (n:=0) (by omega);simp only[km,qd,qm,List.map_cons,List.map_nil,zx]at ih';simp -implicitDefEqProofs only[go_sem,simprocAttr,h1,h2,h3,h4,ih',h8.2,ziv]
  |some a=>
   have h9:a.length=i:=ho;have h8:=(xf (n:=a.length) (by omega)).1;simp only[kp,qd,qm,List.map_append,List.map_cons,List.map_nil,zx]at ih';simp -implicitDefEqProofs only[go_sem,simprocAttr,h1,h2,h3,h4,ih',h8,ziv]
theorem xe3(b:Bool)(l:List (Int))(hb:l.length<1000000):(zu T).call 80 [.sl b 1 (l.map zx),.fn 81 []] [] 0 []=some (k7 1 (((l).map (fun x=>uy x)).map zx),[],0,[]):=by
 rw[yzs];have h:=yve b l hb 0 (by omega) none rfl;rw[show((0:Nat):Int)=0 from rfl,List.drop_zero,zal]at h;simp only[vz,vx]at h;simp -implicitDefEqProofs only[go_sem,simprocAttr,h]
def j7(r:Int):Bool:=(decide (97≤r)&&decide (r≤122))||(decide (65≤r)&&decide (r≤90))
def j9(first:Bool)(r:Int):Bool:= !j7 r&&(first||(r !=95&&(decide (r<48)||decide (57<r))))
def zet:Bool→List UInt8→Bool
 |_,[]=>true
 |f,c::l=> !j9 f c.toNat&&zet false l
def zb4(s:List UInt8):Bool:=zet true s&&(!s.isEmpty&&decide (s.length≤24))
theorem xbv{s:List UInt8}{p:Nat}(h:p<s.length)(hb:s[p].toNat<128):Utf8.decode ⟨s.toArray⟩ p=(s[p].toNat,1):=by
 have e:ByteArray.get! ⟨s.toArray⟩ (p+0)=s[p]:=by simp[ByteArray.get!,h]
 unfold Utf8.decode;simp only[e];rw[if_pos (by omega)]
theorem xbw{s:List UInt8}{p:Nat}(h:p<s.length)(hb:¬s[p].toNat<128):∃r k,Utf8.decode ⟨s.toArray⟩ p=(r,k)∧128≤r:=by
 have e:ByteArray.get! ⟨s.toArray⟩ (p+0)=s[p]:=by simp[ByteArray.get!,h]
 unfold Utf8.decode;simp only[e];rw[if_neg (by omega)];have hR:128≤Utf8.runeError:=by decide
 repeat' split
 all_goals refine⟨_,_,rfl,?_⟩
 all_goals first|exact hR|(rename_i hc;simp at hc;omega)|(simp_all;omega)
theorem xci(r:Int)(h:97≤r∧r≤122):decide (97≤r)=true∧decide (r≤122)=true:=by
 refine⟨?_,?_⟩<;>simp<;>omega
theorem xcg(r:Int)(h:65≤r∧r≤90):decide (97≤r)=false∧decide (65≤r)=true∧decide (r≤90)=true:=by
 refine⟨?_,?_,?_⟩<;>simp<;>omega
theorem zn3(r:Int)(h:123≤r):decide (97≤r)=true∧decide (r≤122)=false∧decide (65≤r)=true∧decide (r≤90)=false∧(r !=95)=true∧decide (r<48)=false∧decide (57<r)=true:=by
 refine⟨?_,?_,?_,?_,?_,?_,?_⟩<;>simp<;>omega
theorem xcf(r:Int)(h:91≤r∧r≤96∧r≠95):decide (97≤r)=false∧decide (65≤r)=true∧decide (r≤90)=false∧(r !=95)=true∧decide (r<48)=false∧decide (57<r)=true:=by
 refine⟨?_,?_,?_,?_,?_,?_⟩<;>simp<;>omega
theorem xce(r:Int)(h:r=95):decide (97≤r)=false∧decide (65≤r)=true∧decide (r≤90)=false∧(r !=95)=false:=by
 refine⟨?_,?_,?_,?_⟩<;>simp<;>omega
theorem xcd(r:Int)(h:58≤r∧r≤64):decide (97≤r)=false∧decide (65≤r)=false∧(r !=95)=true∧decide (r<48)=false∧decide (57<r)=true:=by
 refine⟨?_,?_,?_,?_,?_⟩<;>simp<;>omega
theorem xcc(r:Int)(h:48≤r∧r≤57):decide (97≤r)=false∧decide (65≤r)=false∧(r !=95)=true∧decide (r<48)=false∧decide (57<r)=false:=by
 refine⟨?_,?_,?_,?_,?_⟩<;>simp<;>omega
theorem xcb(r:Int)(h:r<48):decide (97≤r)=false∧decide (65≤r)=false∧(r !=95)=true∧decide (r<48)=true:=by
 refine⟨?_,?_,?_,?_⟩<;>simp<;>omega
theorem xch(r:Int):(97≤r∧r≤122)∨(65≤r∧r≤90)∨(123≤r)∨(91≤r∧r≤96∧r≠95)∨(r=95)∨(58≤r∧r≤64)∨(48≤r∧r≤57)∨(r<48):=by omega
def zgf(s:List UInt8)(p:Nat):Option Out:=
 (zu T).loop false [.code (.loop zjp),.inBlock 0,.code (.seq zl5 .ret)] ⟨103,51,0,[(0,.str s),(7,.it 0)],[.siter s p],0,[]⟩
theorem yuy(s:List UInt8)(hb:s.length<1000000):∀p,p≤s.length→zgf s p=some (.ret (.bool (zet ((p:Int)==0) (s.drop p)&&(!s.isEmpty&&decide (s.length≤24)))),[],0,[]):=by
 refine xh s.length ?_ fun p hp ih=> ?_
 ·unfold zgf
  rw[zq];have h1:decide (s.length<s.length)=false:=by simp
  cases h2:(s==([]:List UInt8))
  ·have h3:s.isEmpty=false:=by cases s with|nil=>cases h2|cons a b=>rfl
   have h4:decide ((s.length:Int)≤24)=decide (s.length≤24):=by simp;omega
   simp -implicitDefEqProofs only[go_sem,simprocAttr,h1,h2,h4,Bool.not_false];simp[zet,h3]
  ·have h3:s= []:=by simpa using h2
   subst h3;simp -implicitDefEqProofs only[go_sem,simprocAttr]
 ·have h1:decide (p<s.length)=true:=decide_eq_true hp
  have h5:s.drop p=s[p]::s.drop (p+1):=List.drop_eq_getElem_cons hp;rw[h5];have h6:(((p+1:Nat):Int)==0)=false:=by simp;omega
  rw[h6]at ih;simp only[zet];by_cases hlo:s[p].toNat<128
  ·have hd:=xbv hp hlo
   unfold zgf at ih⊢;rw[zq];generalize hr:((s[p].toNat:Nat):Int)=r at*;rcases xch r with hc|hc|hc|hc|hc|hc|hc|hc
   ·obtain⟨qA,qB⟩:=xci r hc
    simp -implicitDefEqProofs only[go_sem,simprocAttr,h1,hd,hr,qA,qB,ih];simp[j9,j7,qA,qB]
   ·obtain⟨qA,qC,qD⟩:=xcg r hc
    simp -implicitDefEqProofs only[go_sem,simprocAttr,h1,hd,hr,qA,qC,qD,ih];simp[j9,j7,qA,qC,qD]
   ·obtain⟨qA,qB,qC,qD,qE,qF,qG⟩:=zn3 r hc
    cases hz:((p:Int)==0)
    ·simp -implicitDefEqProofs only[go_sem,simprocAttr,h1,hd,hr,qA,qB,qC,qD,qE,qF,qG,ih,hz]
     try simp[j9,j7,qA,qB,qC,qD,qE,qF,qG,hz]
    ·simp -implicitDefEqProofs only[go_sem,simprocAttr,h1,hd,hr,qA,qB,qC,qD,qE,qF,qG,ih,hz]
     try simp[j9,j7,qA,qB,qC,qD,qE,qF,qG,hz]
   ·obtain⟨qA,qC,qD,qE,qF,qG⟩:=xcf r hc
    cases hz:((p:Int)==0)
    ·simp -implicitDefEqProofs only[go_sem,simprocAttr,h1,hd,hr,qA,qC,qD,qE,qF,qG,ih,hz]
     try simp[j9,j7,qA,qC,qD,qE,qF,qG,hz]
    ·simp -implicitDefEqProofs only[go_sem,simprocAttr,h1,hd,hr,qA,qC,qD,qE,qF,qG,ih,hz]
     try simp[j9,j7,qA,qC,qD,qE,qF,qG,hz]
   ·obtain⟨qA,qC,qD,qE⟩:=xce r hc
    cases hz:((p:Int)==0)
    ·simp -implicitDefEqProofs only[go_sem,simprocAttr,h1,hd,hr,qA,qC,qD,qE,ih,hz]
     try simp[j9,j7,qA,qC,qD,qE,hz]
    ·simp -implicitDefEqProofs only[go_sem,simprocAttr,h1,hd,hr,qA,qC,qD,qE,ih,hz]
     try simp[j9,j7,qA,qC,qD,qE,hz]
   ·obtain⟨qA,qC,qE,qF,qG⟩:=xcd r hc
    cases hz:((p:Int)==0)
    ·simp -implicitDefEqProofs only[go_sem,simprocAttr,h1,hd,hr,qA,qC,qE,qF,qG,ih,hz]
     try simp[j9,j7,qA,qC,qE,qF,qG,hz]
    ·simp -implicitDefEqProofs only[go_sem,simprocAttr,h1,hd,hr,qA,qC,qE,qF,qG,ih,hz]
     try simp[j9,j7,qA,qC,qE,qF,qG,hz]
   ·obtain⟨qA,qC,qE,qF,qG⟩:=xcc r hc
    cases hz:((p:Int)==0)
    ·simp -implicitDefEqProofs only[go_sem,simprocAttr,h1,hd,hr,qA,qC,qE,qF,qG,ih,hz]
     try simp[j9,j7,qA,qC,qE,qF,qG,hz]
    ·simp -implicitDefEqProofs only[go_sem,simprocAttr,h1,hd,hr,qA,qC,qE,qF,qG,ih,hz]
     try simp[j9,j7,qA,qC,qE,qF,qG,hz]
   ·obtain⟨qA,qC,qE,qF⟩:=xcb r hc
    cases hz:((p:Int)==0)
    ·simp -implicitDefEqProofs only[go_sem,simprocAttr,h1,hd,hr,qA,qC,qE,qF,ih,hz]
     try simp[j9,j7,qA,qC,qE,qF,hz]
    ·simp -implicitDefEqProofs only[go_sem,simprocAttr,h1,hd,hr,qA,qC,qE,qF,ih,hz]
     try simp[j9,j7,qA,qC,qE,qF,hz]
  ·obtain⟨r0,k0,hd,hhi⟩:=xbw hp hlo
   unfold zgf;rw[zq];obtain⟨qA,qB,qC,qD,qE,qF,qG⟩:=zn3 (r0:Int) (by omega);obtain⟨wA,wB,wC,wD,wE,wF,wG⟩:=zn3 (s[p].toNat:Int) (by omega);cases hz:((p:Int)==0)
   ·simp -implicitDefEqProofs only[go_sem,simprocAttr,h1,hd,qA,qB,qC,qD,qE,qF,qG,hz]
    simp[j9,j7,wA,wB,wC,wD,wE,wF,wG,hz]
   ·simp -implicitDefEqProofs only[go_sem,simprocAttr,h1,hd,qA,qB,qC,qD,qE,qF,qG,hz]
    simp[j9,j7,wA,wB,wC,wD,wE,wF,wG,hz]
theorem ykt(s:List UInt8)(hb:s.length<1000000):(zu T).call 103 [.str s] [] 0 []=some (.bool (zb4 s),[],0,[]):=by
 rw[xbe];have h:=yuy s hb 0 (by omega);rw[List.drop_zero]at h;unfold zgf at h;simp -implicitDefEqProofs only[go_sem,simprocAttr,h];rfl
structure Cz where
 n:List UInt8
 c:Int
 b:Bool
 l:List (Int×Int)
def czV(c:Cz):V:= .agg [.str c.n,.int .i64 c.c,.sl c.b 2 (c.l.map v9)]
attribute [go_sem] czV
def ui(n k:Int):Int:=qo [cond (n==0) 12 0,cond (decide (k<n)) 5 0]
theorem zkk(n k:Int):qo [cond (n==0) 12 0,cond (decide (k<n)) 5 0]=ui n k:=rfl
def ckC(c:Cz):Int:=qo [uj c.c 0 7,ui c.l.length 8,qo (c.l.map fun x=>g7 x)]
theorem xcr(c:Cz):qo [uj c.c 0 7,ui c.l.length 8,qo (c.l.map fun x=>g7 x)]=ckC c:=rfl
theorem c191(c:Cz)(hl:c.l.length<1000000):(zu T).call 111 [czV c] [] 0 []=some (.int .i64 (ckC c),[],0,[]):=by
 rw[xa9];have e1:=xei c.b c.l hl;have e2:=fun b=>za3 b (c.l.map fun x=>g7 x) (by simp;omega);have e3:List.map zx (List.map (fun x=>g7 x) c.l)=List.map (fun n=>V.int .i64 n) (List.map (fun x=>g7 x) c.l):=rfl;rw[e3]at e1;simp -implicitDefEqProofs only[go_sem,simprocAttr,e1,e2,zit,zod,zkk,zd2,xcr]
def y7(l:List Cz)(i:Nat)(c:Cz):Bool:=(l.take i).any fun a=>a.n==c.n
def csE(l:List Cz)(i:Nat)(c:Cz):Int:=qo [cond (!zb4 c.n) 8 0,cond (y7 l i c) 9 0,ckC c]
theorem xb0(l:List Cz)(i:Nat)(c:Cz):qo [cond (!zb4 c.n) 8 0,cond (y7 l i c) 9 0,ckC c]=csE l i c:=rfl
def zah(l:List Cz):Nat→List Cz→List Int
 |_,[]=> []
 |i,m::r=>csE l i m::zah l (i+1) r
def za1(l:List Cz):Int:=if 8<l.length then 5 else qo (zah l 0 l)
def kvC(c:Cz):V×V:=(.str c.n,.bool true)
theorem zms{eq:V→V→Option Bool}{x y:V}:∀{es:List (V×V)},(∀e∈es,eq x e.1=some false)→mapSet eq es x y=some (es++ [(x,y)])
 | [],_=>rfl
 |(a,b)::r,h=>by
  have h1:=h (a,b) (List.mem_cons_self ..);dsimp only at h1;simp only[mapSet,h1,zms (es:=r) (fun e he=>h e (List.mem_cons_of_mem _ he)),List.cons_append]
theorem eq9(a b:List UInt8):eqT T 5 9 (.str a) (.str b)=some (a==b):=by
 simp -implicitDefEqProofs only[go_sem,simprocAttr]
theorem ywk(a:List UInt8):keyOk T 3 9 (.str a)=true:=by kernel_rfl
theorem yow{l:List Cz}{i:Nat}(hi:i<l.length)(hd:y7 l i l[i]=false):mapSet (eqT T 5 9) ((l.take i).map kvC) (.str l[i].n) (.bool true)=some ((l.take (i+1)).map kvC):=by
 rw[zms]
 ·rw[List.take_succ_eq_append_getElem hi,List.map_append];rfl
 ·intro e he
  obtain⟨m,hm,rfl⟩:=List.mem_map.1 he;unfold y7 at hd;rw[List.any_eq_false]at hd;have:=hd m hm;simp only[kvC];rw[eq9,Bool.beq_comm];simpa using this
theorem yxt(l:List Cz)(s:List UInt8):mapGet (eqT T 5 9) (l.map kvC) (.str s)=some (cond (l.any fun a=>a.n==s) (some (.bool true)) none):=by
 induction l with
 |nil=>rfl
 |cons c l ih=>
  simp only[List.map_cons,kvC,mapGet,eq9,List.any_cons];rw[Bool.beq_comm];cases h:(c.n==s)
  ·simpa[kvC]using ih
  ·rfl
def zgg(b:Bool)(l:List Cz)(i:Nat):Option Out:=
 (zu T).loop false [.code (.loop zi4),.inBlock 0,.code (.seq zlh .ret)] ⟨84,38,0,[(3,.map 0),(11,.sl b 3 (l.map czV)),(12,.int .i64 l.length),(13,.int .i64 i)],[.map ((l.take i).map kvC)],0,[]⟩
theorem yvc(b:Bool)(l:List Cz)(hb:l.length<1000000)(hn:∀c∈l,c.n.length<1000000∧c.l.length<1000000):∀i,i≤l.length→zgg b l i=some (.ret (.int .i64 (qo (zah l i (l.drop i)))),[],0,[]):=by
 refine xh l.length ?_ fun i hi ih=> ?_
 ·unfold zgg
  rw[zq];have h1:=xu l.length;simp -implicitDefEqProofs only[go_sem,simprocAttr,h1];simp[qo,zah]
 ·obtain⟨h1,h2,h3,h4,h5⟩:=ze hi (by omega)
  rw[h5];obtain⟨k1,k2⟩:=hn l[i] (List.getElem_mem hi);have e1:=ykt l[i].n k1;have e2:=c191 l[i] k2;have e3:=yxt (l.take i) l[i].n;have e4:=ywk l[i].n;have ef:=xb0 l i l[i];simp only[czV]at e2;have ed:y7 l i l[i]=(l.take i).any fun a=>a.n==l[i].n:=rfl;rw[←ed]at e3;cases h6:(csE l i l[i] !=0)
  ·have h7:csE l i l[i]=0:=by simpa using h6
   have h8:y7 l i l[i]=false:=by
    have:=qw.1 h7 (cond (y7 l i l[i]) 9 0) (by simp);cases hd:y7 l i l[i]with
    |false=>rfl
    |true=>rw[hd]at this;cases this
   have e5:=yow hi h8;unfold zgg at ih⊢;rw[zq];rw[h8]at e3 ef;simp only[cond_false]at ef e3;simp -implicitDefEqProofs only[go_sem,simprocAttr,h1,h2,h3,h4,e1,e2,e3,e4,jl,zd2,ef,h6,e5,ih,cond_false];simp[qo,zah,h7]
  ·have h7:csE l i l[i]≠0:=by simpa using h6
   unfold zgg;rw[zq];cases h8:y7 l i l[i]
   ·rw[h8]at e3 ef
    simp only[cond_false]at ef e3;simp -implicitDefEqProofs only[go_sem,simprocAttr,h1,h2,h3,h4,e1,e2,e3,e4,jl,zd2,ef,h6,cond_false];simp[qo,zah,h7]
   ·rw[h8]at e3 ef
    simp only[cond_true]at ef e3;simp -implicitDefEqProofs only[go_sem,simprocAttr,h1,h2,h3,h4,e1,e2,e3,e4,jl,zd2,ef,h6,cond_true];simp[qo,zah,h7]
theorem xet(b:Bool)(l:List Cz)(hb:l.length<1000000)(hn:∀c∈l,c.n.length<1000000∧c.l.length<1000000):(zu T).call 84 [.sl b 3 (l.map czV)] [] 0 []=some (.int .i64 (za1 l),[],0,[]):=by
 rw[yzo];have h:=yvc b l hb hn 0 (by omega);rw[List.drop_zero]at h;unfold zgg at h;rw[show((0:Nat):Int)=0 from rfl,List.take_zero,List.map_nil]at h;cases h1:decide (8<(l.length:Int))
 ·have h2:¬8<l.length:=by simp at h1;omega
  simp -implicitDefEqProofs only[go_sem,simprocAttr,h,h1];simp[za1,h2]
 ·have h2:8<l.length:=by simp at h1;omega
  simp -implicitDefEqProofs only[go_sem,simprocAttr,h1];simp[za1,h2]
def rwV(r:Bool×List Int):V:= .sl r.1 1 (r.2.map zx)
structure Pk where
 vb:Bool
 v:List (Bool×List Int)
 n:Int
 cb:Bool
 c:List Cz
def xq(p:Pk):V:= .agg [.sl p.vb 1 (p.v.map rwV),.int .i64 p.n,.sl p.cb 3 (p.c.map czV)]
attribute [go_sem] rwV
def g8(s:Nat)(r:Bool×List Int):Int:=qo [ui r.2.length 8,cond ((r.2.length:Int) !=s) 2 0,qo (r.2.map fun n=>uy n)]
theorem xc5(s:Nat)(r:Bool×List Int):qo [ui r.2.length 8,cond ((r.2.length:Int) !=s) 2 0,qo (r.2.map fun n=>uy n)]=g8 s r:=rfl
def g9(k s:Nat)(c:Cz):Int:=qo [cond (decide ((k:Int)≤c.c)) 10 0,cond ((c.l.length:Int) !=s) 2 0]
theorem xdt(k s:Nat)(c:Cz):qo [cond (decide ((k:Int)≤c.c)) 10 0,cond ((c.l.length:Int) !=s) 2 0]=g9 k s c:=rfl
def Pk.fit(p:Pk):Prop:=p.v.length<1000∧(∀r∈p.v,r.2.length<1000)∧p.c.length<1000∧∀c∈p.c,c.n.length<1000000∧c.l.length<1000000
theorem znj{p:Pk}{r0:Bool×List Int}(h:p.v[0]? =some r0):decide (0<(p.v.length:Int))=true:=by
 obtain⟨h,_⟩:=List.getElem?_eq_some_iff.1 h;exact decide_eq_true (by omega)
theorem yk4(p:Pk)(r0 r:Bool×List Int)(h0:p.v[0]? =some r0)(hr:r.2.length<1000000):(zu T).call 79 [.sl r.1 1 (r.2.map zx),.pp 3 [xq p] 0 0] [] 0 []=some (.int .i64 (g8 r0.2.length r),[],0,[]):=by
 rw[yzt];have g:=znj h0;have e1:=xe3 r.1 r.2 hr;have e2:=fun b=>za3 b (r.2.map fun n=>uy n) (by simp;omega);have e3:List.map zx (List.map (fun x=>uy x) r.2)=List.map (fun n=>V.int .i64 n) (List.map (fun x=>uy x) r.2):=rfl;rw[e3]at e1;simp -implicitDefEqProofs only[go_sem,simprocAttr,xq,h0,g,e1,e2,jl,zod,zkk,zd2,xc5]
theorem yk3(p:Pk)(r0:Bool×List Int)(c:Cz)(h0:p.v[0]? =some r0):(zu T).call 82 [.agg [.str c.n,.int .i64 c.c,.sl c.b 2 (c.l.map v9)],.pp 3 [xq p] 0 0] [] 0 []=some (.int .i64 (g9 p.v.length r0.2.length c),[],0,[]):=by
 rw[yzq];have g:=znj h0;simp -implicitDefEqProofs only[go_sem,simprocAttr,xq,h0,g,jl,ziq,xdt]
theorem yvd(p:Pk)(r0:Bool×List Int)(h0:p.v[0]? =some r0)(b:Bool)(l:List (Bool×List Int))(hb:l.length<1000000)(hr:∀r∈l,r.2.length<1000000):∀i,i≤l.length→∀o:Option (List (Int)),u4 o=i→
  (zu T).loop false [.code (.loop zi5),.inBlock 0,.code (.seq zli .ret)] ⟨83,22,0,[(1,.fn 79 [.pp 3 [xq p] 0 0]),(5,u9 o 0),(8,.sl b 1 (l.map rwV)),(9,.int .i64 l.length),(10,.int .i64 i)],gz zx o 41,0,[]⟩=
   some (.ret (uz zx 0 1 (vm o ((l.drop i).map (fun r=>g8 r0.2.length r)))),[],0,[]):=by
 refine xh l.length ?_ fun i hi ih o ho=> ?_
 ·intro o ho
  rw[zq];have h1:=xu l.length;cases o with
  |none=>
   simp -implicitDefEqProofs only[go_sem,simprocAttr,h1];simp[vm,uz]
  |some a=>
   simp -implicitDefEqProofs only[go_sem,simprocAttr,h1];simp[vm,uz]
 ·obtain⟨h1,h2,h3,h4,h5⟩:=ze hi (by omega)
  rw[zq,h5];have ih':=ih (vm o [((fun r=>g8 r0.2.length r) l[i])]) (by rw[kf,ho];rfl);rw[kn]at ih';dsimp only at ih';cases o with
  |none=>
   have h8:=xf (n:=0) (by omega);simp only[km,qd,qm,List.map_cons,List.map_nil,zx]at ih';simp -implicitDefEqProofs only[go_sem,simprocAttr,h1,h2,h3,h4,ih',h8.2,yk4 p r0 l[i] h0 (hr _ (List.getElem_mem hi))]
  |some a=>
   have h9:a.length=i:=ho;have h8:=(xf (n:=a.length) (by omega)).1;simp only[kp,qd,qm,List.map_append,List.map_cons,List.map_nil,zx]at ih';simp -implicitDefEqProofs only[go_sem,simprocAttr,h1,h2,h3,h4,ih',h8,yk4 p r0 l[i] h0 (hr _ (List.getElem_mem hi))]
theorem xe2(p:Pk)(r0:Bool×List Int)(h0:p.v[0]? =some r0)(b:Bool)(l:List (Bool×List Int))(hb:l.length<1000000)(hr:∀r∈l,r.2.length<1000000):(zu T).call 83 [.sl b 1 (l.map rwV),.fn 79 [.pp 3 [xq p] 0 0]] [] 0 []=some (k7 1 (((l).map (fun r=>g8 r0.2.length r)).map zx),[],0,[]):=by
 rw[yzp];have h:=yvd p r0 h0 b l hb hr 0 (by omega) none rfl;rw[show((0:Nat):Int)=0 from rfl,List.drop_zero,zal]at h;simp only[vz,vx]at h;simp -implicitDefEqProofs only[go_sem,simprocAttr,h]
theorem yvb(p:Pk)(r0:Bool×List Int)(h0:p.v[0]? =some r0)(b:Bool)(l:List (Cz))(hb:l.length<1000000):∀i,i≤l.length→∀o:Option (List (Int)),u4 o=i→
  (zu T).loop false [.code (.loop zi3),.inBlock 0,.code (.seq zlg .ret)] ⟨85,22,0,[(1,.fn 82 [.pp 3 [xq p] 0 0]),(5,u9 o 0),(8,.sl b 3 (l.map czV)),(9,.int .i64 l.length),(10,.int .i64 i)],gz zx o 41,0,[]⟩=
   some (.ret (uz zx 0 1 (vm o ((l.drop i).map (fun c=>g9 p.v.length r0.2.length c)))),[],0,[]):=by
 refine xh l.length ?_ fun i hi ih o ho=> ?_
 ·intro o ho
  rw[zq];have h1:=xu l.length;cases o with
  |none=>
   simp -implicitDefEqProofs only[go_sem,simprocAttr,h1];simp[vm,uz]
  |some a=>
   simp -implicitDefEqProofs only[go_sem,simprocAttr,h1];simp[vm,uz]
 ·obtain⟨h1,h2,h3,h4,h5⟩:=ze hi (by omega)
  rw[zq,h5];have ih':=ih (vm o [((fun c=>g9 p.v.length r0.2.length c) l[i])]) (by rw[kf,ho];rfl);rw[kn]at ih';dsimp only at ih';cases o with
  |none=>
   have h8:=xf (n:=0) (by omega);simp only[km,qd,qm,List.map_cons,List.map_nil,zx]at ih';simp -implicitDefEqProofs only[go_sem,simprocAttr,h1,h2,h3,h4,ih',h8.2,yk3 p r0 l[i] h0]
  |some a=>
   have h9:a.length=i:=ho;have h8:=(xf (n:=a.length) (by omega)).1;simp only[kp,qd,qm,List.map_append,List.map_cons,List.map_nil,zx]at ih';simp -implicitDefEqProofs only[go_sem,simprocAttr,h1,h2,h3,h4,ih',h8,yk3 p r0 l[i] h0]
theorem xes(p:Pk)(r0:Bool×List Int)(h0:p.v[0]? =some r0)(b:Bool)(l:List (Cz))(hb:l.length<1000000):(zu T).call 85 [.sl b 3 (l.map czV),.fn 82 [.pp 3 [xq p] 0 0]] [] 0 []=some (k7 1 (((l).map (fun c=>g9 p.v.length r0.2.length c)).map zx),[],0,[]):=by
 rw[yzn];have h:=yvb p r0 h0 b l hb 0 (by omega) none rfl;rw[show((0:Nat):Int)=0 from rfl,List.drop_zero,zal]at h;simp only[vz,vx]at h;simp -implicitDefEqProofs only[go_sem,simprocAttr,h]
def j8(p:Pk):Int:=if ui p.v.length 8=0 then qo [qo (p.v.map fun r=>g8 ((p.v[0]?.getD (false,[])).2.length) r),uy p.n,za1 p.c,qo (p.c.map fun c=>g9 p.v.length ((p.v[0]?.getD (false,[])).2.length) c)]else ui p.v.length 8
theorem zkj{n:Nat}(h:ui n 8=0):0<n∧n≤8:=by
 unfold ui at h;have h1:=qw.1 h (cond ((n:Int)==0) 12 0) (by simp);have h2:=qw.1 h (cond (decide (8<(n:Int))) 5 0) (by simp);constructor
 ·cases n with
  |zero=>cases h1
  |succ n=>omega
 ·by_cases hc:8<(n:Int)
  ·simp[hc]at h2
  ·omega
theorem c23(p:Pk)(hf:p.fit):(zu T).call 41 [xq p] [] 0 []=some (.int .i64 (j8 p),[],0,[]):=by
 rw[xag];obtain⟨f1,f2,f3,f4⟩:=hf;have e1:=zod p.v.length 8;rw[zkk]at e1;unfold j8;cases h:(ui p.v.length 8 !=0)
 ·have h0:ui p.v.length 8=0:=by simpa using h
  rw[if_pos h0];obtain⟨k1,k2⟩:=zkj h0;have hr0:p.v[0]? =some p.v[0]:=List.getElem?_eq_getElem k1;have e2:=xe2 p p.v[0] hr0 p.vb p.v (by omega) (fun r hr=>by have:=f2 r hr;omega);have e3:=xes p p.v[0] hr0 p.cb p.c (by omega);have e4:=xet p.cb p.c (by omega) f4;have e5:=fun b=>za3 b (p.v.map fun r=>g8 p.v[0].2.length r) (by simp;omega);have e6:=fun b=>za3 b (p.c.map fun c=>g9 p.v.length p.v[0].2.length c) (by simp;omega);have t1:List.map zx (List.map (fun r=>g8 p.v[0].2.length r) p.v)=List.map (fun n=>V.int .i64 n) (List.map (fun r=>g8 p.v[0].2.length r) p.v):=rfl;have t2:List.map zx (List.map (fun c=>g9 p.v.length p.v[0].2.length c) p.c)=List.map (fun n=>V.int .i64 n) (List.map (fun c=>g9 p.v.length p.v[0].2.length c) p.c):=rfl;rw[t1]at e2;rw[t2]at e3;rw[hr0];dsimp only[Option.getD_some];have e7:=xdx true (qo (p.v.map fun r=>g8 p.v[0].2.length r)) (uy p.n) (za1 p.c) (qo (p.c.map fun c=>g9 p.v.length p.v[0].2.length c));simp only[xq]at e2 e3;simp -implicitDefEqProofs only[go_sem,simprocAttr,xq,e1,h,e2,e3,e4,e5,e6,e7,ziv]
 ·have h0:¬ui p.v.length 8=0:=by simpa using h
  rw[if_neg h0];simp -implicitDefEqProofs only[go_sem,simprocAttr,xq,e1,h]
theorem zir(x:Int):(zu T).call 117 [.int .i64 x] [] 0 []=some (.bool false,[],0,[]):=by
 rw[xa5];have h:(x !=x)=false:=by simp
 simp -implicitDefEqProofs only[go_sem,simprocAttr,h]
theorem ykq(x y:Int):(zu T).call 146 [.int .i64 x,.int .i64 y] [] 0 []=some (.bool (decide (x<y)),[],0,[]):=by
 rw[xav];simp -implicitDefEqProofs only[go_sem,simprocAttr,zir]
def ji(x:Int):List Int→List Int
 | []=> [x]
 |p::r=>if x<p then p::ji x r else x::p::r
def zc5(acc:List Int):List Int→List Int
 | []=>acc
 |x::r=>zc5 (ji x acc) r
def ud(l:List Int):List Int:=(zc5 [] l).reverse
theorem zm6(x:Int)(l:List Int):(ji x l).length=l.length+1:=by
 induction l with
 |nil=>rfl
 |cons p r ih=>simp only[ji];split<;>simp[ih]
theorem yiq(x:Int)(l:List Int):(ji x l).Perm (x::l):=by
 induction l with
 |nil=>exact .refl _
 |cons p r ih=>
  simp only[ji];split
  ·exact(ih.cons p).trans (.swap x p r)
  ·exact .refl _
theorem yw6(x:Int)(l:List Int)(h:l.Pairwise (· ≥ ·)):(ji x l).Pairwise (· ≥ ·):=by
 induction l with
 |nil=>simp[ji]
 |cons p r ih=>
  rw[List.pairwise_cons]at h;simp only[ji];split
  ·rename_i hx
   rw[List.pairwise_cons];refine⟨fun y hy=> ?_,ih h.2⟩;rcases List.mem_cons.1 ((yiq x r).mem_iff.1 hy)with rfl|hy
   ·omega
   ·exact h.1 y hy
  ·rename_i hx
   rw[List.pairwise_cons,List.pairwise_cons];refine⟨fun y hy=> ?_,h⟩;rcases List.mem_cons.1 hy with rfl|hy
   ·omega
   ·have:=h.1 y hy;omega
theorem zky:∀(l acc:List Int),acc.Pairwise (· ≥ ·)→(zc5 acc l).Pairwise (· ≥ ·)∧(zc5 acc l).Perm (l++acc)
 | [],acc,h=>⟨h,.refl _⟩
 |x::r,acc,h=>by
  obtain⟨h1,h2⟩:=zky r (ji x acc) (yw6 x acc h);refine⟨h1,h2.trans ?_⟩;have:=(yiq x acc).append_left r;exact this.trans List.perm_middle
theorem yoi(l:List Int):(ud l).Pairwise (· ≤ ·):=by
 unfold ud;rw[List.pairwise_reverse];exact(zky l [] List.Pairwise.nil).1
theorem zpg(l:List Int):(ud l).Perm l:=by
 unfold ud;have:=(zky l [] List.Pairwise.nil).2;rw[List.append_nil]at this;exact(List.reverse_perm _).trans this
theorem yxq(R Q:List Int)(x:Int):(R.reverse++x::Q)[R.length]? =some x:=by
 rw[List.getElem?_append_right (by simp)];simp
theorem yxr(R Q:List Int)(p x:Int):((p::R).reverse++x::Q)[R.length]? =some p:=by
 rw[List.reverse_cons,List.append_assoc,List.getElem?_append_right (by simp)];simp
theorem ynl(R Q:List Int)(p x:Int):(((p::R).reverse++x::Q).set (R.length+1) p).set R.length x=R.reverse++x::p::Q:=by
 rw[List.reverse_cons,List.append_assoc,List.set_append_right _ _ (by simp),List.set_append_right _ _ (by simp)];simp
def zed(l:List Int)(n i j:Nat):Option Out:=
 (zu T).loop false [.code (.loop zjj),.inBlock 2,.inBlock 1,.code zl0,.inLoop zf5,.inBlock 0]
  ⟨140,49,1,[(0,.ref 0),(1,.int .i64 0),(2,.int .i64 n),(6,.int .i64 i),(7,.int .i64 j)],[.cells false true 3 (l.map zx)],0,[]⟩
def zbu(l:List Int)(n i:Nat):Option Out:=
 (zu T).loop false [.code (.loop zf5),.inBlock 0]
  ⟨140,49,1,[(0,.ref 0),(1,.int .i64 0),(2,.int .i64 n),(6,.int .i64 i)],[.cells false true 3 (l.map zx)],0,[]⟩
theorem yum(n i:Nat)(hn:n<1000000)(hi:i<1000000)(x:Int):∀(R Q:List Int),(R.reverse++x::Q).length<1000000→zed (R.reverse++x::Q) n i R.length=zbu ((ji x R).reverse++Q) n (i+1):=by
 intro R
 induction R with
 |nil=>
  intro Q hl;unfold zed;rw[zq];have h4:IntKind.i64.wrap ((i:Int)+1)=((i+1:Nat):Int):=by rw[wrap64]<;>omega
  simp only[List.length_nil,ji,List.reverse_nil,List.nil_append,List.reverse_cons,List.cons_append];unfold zbu;simp -implicitDefEqProofs only[go_sem,simprocAttr,h4]
 |cons p R ih=>
  intro Q hl;have g1:=yxq (p::R) Q x;have g2:=yxr R Q p x;have g3:=ynl R Q p x;have hll:((p::R).reverse++x::Q).length=R.length+2+Q.length:=by simp;omega
  rw[hll]at hl;have w1:IntKind.i64.wrap (((R.length+1:Nat):Int)- 1)=(R.length:Int):=by rw[wrap64]<;>omega
  have w2:IntKind.i64.wrap ((i:Int)+1)=((i+1:Nat):Int):=by rw[wrap64]<;>omega
  have d1:decide (0<((R.length+1:Nat):Int))=true:=decide_eq_true (by omega);have d2:decide (0≤((R.length+1:Nat):Int)∧((R.length+1:Nat):Int)<(((p::R).reverse++x::Q).length:Int))=true:=by rw[hll];exact decide_eq_true (by omega)
  have d3:decide (0≤(R.length:Int)∧(R.length:Int)<(((p::R).reverse++x::Q).length:Int))=true:=by rw[hll];exact decide_eq_true (by omega)
  have ih':=ih (p::Q) (by simp at*;omega);rw[←g3]at ih';rw[List.length_cons]at g1⊢;generalize hL:(p::R).reverse++x::Q=L at*;have d4:R.length<L.length:=by rw[hll];omega
  have d5:R.length+1<L.length:=by rw[hll];omega
  have g4:((L.map zx).set (R.length+1) (.int .i64 p))[R.length]? =some (.int .i64 p):=by
   rw[List.getElem?_set_ne (by omega),List.getElem?_map,g2];rfl
  unfold zed;rw[zq];cases hx:decide (x<p)
  ·have hx':¬x<p:=by simpa using hx
   have e:(ji x (p::R)).reverse++Q=L:=by simp only[ji,if_neg hx'];rw[←hL];simp
   rw[e];unfold zbu;simp -implicitDefEqProofs only[go_sem,simprocAttr,d1,d2,d3,g1,g2,w1,w2,ykq,hx]
  ·have hx':x<p:=by simpa using hx
   have e:(ji x (p::R)).reverse++Q=(ji x R).reverse++p::Q:=by simp only[ji,if_pos hx'];simp
   rw[e,←ih'];unfold zed;simp -implicitDefEqProofs only[go_sem,simprocAttr,d1,d2,d3,g1,g2,w1,w2,ykq,hx,d4,d5,g4,List.map_set]
theorem yun(n:Nat)(hn:n<100000):∀(r R:List Int),R.length+r.length=n→0<R.length→zbu (R.reverse++r) n R.length=some (.ret (.tup []),[.cells false true 3 ((zc5 R r).reverse.map zx)],0,[]):=by
 intro r
 induction r with
 |nil=>
  intro R hl _;simp only[List.length_nil,Nat.add_zero]at hl;subst hl;rw[List.append_nil];unfold zbu;rw[zq];have h1:=xu R.length;simp -implicitDefEqProofs only[go_sem,simprocAttr,h1];rfl
 |cons x r ih=>
  intro R hl hR;rw[List.length_cons]at hl;have hI:=yum n R.length (by omega) (by omega) x R r (by simp;omega);have h1:decide ((R.length:Int)<(n:Int))=true:=decide_eq_true (by omega)
  have hh:zbu (R.reverse++x::r) n R.length=zed (R.reverse++x::r) n R.length R.length:=by
   conv=>lhs;unfold zbu;rw[zq]
   unfold zed;simp -implicitDefEqProofs only[go_sem,simprocAttr,h1]
  rw[hh,hI];have ih':=ih (ji x R) (by rw[zm6];omega) (by rw[zm6];omega);rw[zm6]at ih';exact ih'
theorem xdw(l:List Int)(hl:l.length<100000)(h0:0<l.length):(zu T).call 140 [.ref 0,.int .i64 0,.int .i64 l.length] [.cells false true 3 (l.map zx)] 0 []=some (.tup [],[.cells false true 3 ((ud l).map zx)],0,[]):=by
 rw[xaw]
 match l,h0 with
 |x::r,_=>
  have h:=yun (x::r).length hl r [x] (by simp;omega) (by simp);unfold zbu at h;simp only[List.reverse_cons,List.reverse_nil,List.nil_append,List.cons_append,List.length_singleton,List.map_cons,zx,List.length_cons,List.length_nil,Nat.zero_add,Int.cast_ofNat_Int]at h;have w:IntKind.i64.wrap ((0:Int)+1)=1:=by rw[wrap64]<;>omega
  have e:ud (x::r)=(zc5 [x] r).reverse:=rfl;rw[e];simp -implicitDefEqProofs only[go_sem,simprocAttr,wrap64,h,Int.reduceAdd]
theorem xdy(l:List Int)(k:Int)(hl:l.length≤12)(h0:0<l.length):(zu T).call 134 [.ref 0,.int .i64 0,.int .i64 l.length,.int .i64 k] [.cells false true 3 (l.map zx)] 0 []=some (.tup [],[.cells false true 3 ((ud l).map zx)],0,[]):=by
 rw[xay];have e:=xdw l (by omega) h0;have w:IntKind.i64.wrap ((l.length:Int)- 0)=(l.length:Int):=by rw[wrap64]<;>omega
 have d:decide ((l.length:Int)≤12)=true:=decide_eq_true (by omega);simp -implicitDefEqProofs only[go_sem,simprocAttr];rw[zq];simp -implicitDefEqProofs only[go_sem,simprocAttr,w,d];rw[znb (id:=0) (l':=(ud l).map zx) yyh.1 ypx rfl rfl _ rfl rfl e];simp -implicitDefEqProofs only[go_sem,simprocAttr]
theorem yv9:(zu T).call 116 [.int .u64 0] [] 0 []=some (.int .i64 0,[],0,[]):=q6 (MemoOk.nil T) 100000 (by kernel_rfl)
theorem yv8:(zu T).call 116 [.int .u64 1] [] 0 []=some (.int .i64 1,[],0,[]):=q6 (MemoOk.nil T) 100000 (by kernel_rfl)
theorem yv4:(zu T).call 116 [.int .u64 2] [] 0 []=some (.int .i64 2,[],0,[]):=q6 (MemoOk.nil T) 100000 (by kernel_rfl)
theorem yv3:(zu T).call 116 [.int .u64 3] [] 0 []=some (.int .i64 2,[],0,[]):=q6 (MemoOk.nil T) 100000 (by kernel_rfl)
theorem yv2:(zu T).call 116 [.int .u64 4] [] 0 []=some (.int .i64 3,[],0,[]):=q6 (MemoOk.nil T) 100000 (by kernel_rfl)
theorem yv1:(zu T).call 116 [.int .u64 5] [] 0 []=some (.int .i64 3,[],0,[]):=q6 (MemoOk.nil T) 100000 (by kernel_rfl)
theorem yv0:(zu T).call 116 [.int .u64 6] [] 0 []=some (.int .i64 3,[],0,[]):=q6 (MemoOk.nil T) 100000 (by kernel_rfl)
theorem yvz:(zu T).call 116 [.int .u64 7] [] 0 []=some (.int .i64 3,[],0,[]):=q6 (MemoOk.nil T) 100000 (by kernel_rfl)
theorem yvy:(zu T).call 116 [.int .u64 8] [] 0 []=some (.int .i64 4,[],0,[]):=q6 (MemoOk.nil T) 100000 (by kernel_rfl)
theorem yvx:(zu T).call 116 [.int .u64 9] [] 0 []=some (.int .i64 4,[],0,[]):=q6 (MemoOk.nil T) 100000 (by kernel_rfl)
theorem yv7:(zu T).call 116 [.int .u64 10] [] 0 []=some (.int .i64 4,[],0,[]):=q6 (MemoOk.nil T) 100000 (by kernel_rfl)
theorem yv6:(zu T).call 116 [.int .u64 11] [] 0 []=some (.int .i64 4,[],0,[]):=q6 (MemoOk.nil T) 100000 (by kernel_rfl)
theorem yv5:(zu T).call 116 [.int .u64 12] [] 0 []=some (.int .i64 4,[],0,[]):=q6 (MemoOk.nil T) 100000 (by kernel_rfl)
theorem xdz(n:Nat)(h:n≤12):∃r,(zu T).call 116 [.int .u64 n] [] 0 []=some (.int .i64 r,[],0,[]):=by
 have:n=0∨n=1∨n=2∨n=3∨n=4∨n=5∨n=6∨n=7∨n=8∨n=9∨n=10∨n=11∨n=12:=by omega
 rcases this with rfl|rfl|rfl|rfl|rfl|rfl|rfl|rfl|rfl|rfl|rfl|rfl|rfl
 ·exact⟨0,yv9⟩
 ·exact⟨1,yv8⟩
 ·exact⟨2,yv4⟩
 ·exact⟨2,yv3⟩
 ·exact⟨3,yv2⟩
 ·exact⟨3,yv1⟩
 ·exact⟨3,yv0⟩
 ·exact⟨3,yvz⟩
 ·exact⟨4,yvy⟩
 ·exact⟨4,yvx⟩
 ·exact⟨4,yv7⟩
 ·exact⟨4,yv6⟩
 ·exact⟨4,yv5⟩
theorem xd1(l:List Int)(hl:l.length≤12)(h0:0<l.length):(zu T).call 123 [.ref 0] [.cells false true 3 (l.map zx)] 0 []=some (.tup [],[.cells false true 3 ((ud l).map zx)],0,[]):=by
 rw[xa0];obtain⟨r,e1⟩:=xdz l.length hl;have e:=xdy l r hl h0
 have w:IntKind.u64.wrap (l.length:Int)=(l.length:Int):=by
  simp only[IntKind.wrap,IntKind.bits,IntKind.signed];have:(2:Int)^64=18446744073709551616:=by decide
  simp;omega
 simp -implicitDefEqProofs only[go_sem,simprocAttr,w,e1];rw[znb (id:=0) (l':=(ud l).map zx) yyi.1 ypy rfl rfl _ rfl rfl e];simp -implicitDefEqProofs only[go_sem,simprocAttr]
def med(l:List Int):Int:=(ud l).getD ((l.length- 1)/2) 0
theorem xef(b:Bool)(l:List Int)(hl:l.length≤12)(h0:0<l.length):(zu T).call 112 [.sl b 1 (l.map zx)] [] 0 []=some (.int .i64 (med l),[],0,[]):=by
 rw[xa8];have e:=xd1 l hl h0;have d1:decide (0≤(l.length:Int)∧(l.length:Int)≤(l.length:Int)∧(l.length:Int)<(maxRow:Int))=true:=decide_eq_true ⟨by omega,by omega,by unfold maxRow;omega⟩
 have d2:List.take (List.replicate l.length (V.int IntKind.i64 0)).length (List.map zx l)++List.drop (min l.length (List.replicate l.length (V.int IntKind.i64 0)).length) (List.replicate l.length (V.int IntKind.i64 0))=l.map zx:=by
  rw[List.length_replicate,Nat.min_self,List.drop_of_length_le (by simp),List.append_nil,List.take_of_length_le (by simp)]
 simp -implicitDefEqProofs only[go_sem,simprocAttr,d1,d2];rw[znb (id:=0) (l':=(ud l).map zx) yyj.1 ypz rfl rfl _ rfl rfl e];have hp:=(zpg l).length_eq;have w1:IntKind.i64.wrap ((l.length:Int)- 1)=((l.length- 1:Nat):Int):=by rw[wrap64]<;>omega
 have hm:(l.length- 1)/2<(ud l).length:=by rw[hp];omega
 have g:(ud l)[(l.length- 1)/2]? =some (med l):=by
  unfold med;rw[List.getD_eq_getElem?_getD,List.getElem?_eq_getElem hm];rfl
 have w2:IntKind.i64.wrap (((l.length- 1:Nat):Int).tdiv 2)=(((l.length- 1)/2:Nat):Int):=by
  rw[show((l.length- 1:Nat):Int).tdiv 2=(((l.length- 1)/2:Nat):Int)from rfl,wrap64]<;>omega
 have d3:decide (0≤(((l.length- 1)/2:Nat):Int)∧(((l.length- 1)/2:Nat):Int)<(l.length:Int))=true:=decide_eq_true (by omega);simp -implicitDefEqProofs only[go_sem,simprocAttr,hp,w1,w2,d3,g]
end Go.Den.FaT
namespace Go.Den.FaT
def jd(l:List Int)(x:Int):Nat:=l.countP fun y=>decide (y<x)
def wt(l:List Int)(x:Int):Nat:=l.countP fun y=>decide (y=x)
theorem xb4(l:List Int)(x:Int):jd l x+wt l x≤l.length:=by
 unfold jd wt
 induction l with
 |nil=>simp
 |cons y l ih=>
  simp only[List.countP_cons,List.length_cons];by_cases h:y<x
  ·have:¬y=x:=by omega
   simp[h,this];omega
  ·by_cases h':y=x<;>simp[h,h']<;>omega
theorem yke{l:List Int}{x:Int}(h:∀y∈l,y≤x):jd l x+wt l x=l.length:=by
 unfold jd wt
 induction l with
 |nil=>simp
 |cons y l ih=>
  have ih:=ih fun z hz=>h z (List.mem_cons_of_mem _ hz);have hy:=h y (List.mem_cons_self ..);simp only[List.countP_cons,List.length_cons];by_cases h1:y<x
  ·have:¬y=x:=by omega
   simp[h1,this];omega
  ·have:y=x:=by omega
   simp[this];omega
theorem xb7{l:List Int}{x:Int}(h:∀y∈l,y<x):jd l x=l.length:=by
 unfold jd;rw[List.countP_eq_length];intro y hy;simpa using h y hy
theorem ykf{l:List Int}{x:Int}(h:∀y∈l,x≤y):jd l x=0:=by
 unfold jd;rw[List.countP_eq_zero];intro y hy;have:=h y hy;simp;omega
theorem xb8{l:List Int}{x:Int}(h:∀y∈l,x<y):wt l x=0:=by
 unfold wt;rw[List.countP_eq_zero];intro y hy;have:=h y hy;simp;omega
theorem yts{s:List Int}(hs:s.Pairwise (· ≤ ·)){m:Nat}(hm:m<s.length)(x:Int):(jd s x≤m∧m<jd s x+wt s x)↔x=s[m]:=by
 have e:s=s.take m++s[m]::s.drop (m+1):=by rw[←List.drop_eq_getElem_cons hm,List.take_append_drop]
 generalize hy:s[m]=y at e;generalize hA:s.take m=A at e;generalize hB:s.drop (m+1)=B at e;have hl:A.length=m:=by rw[←hA];simp;omega
 rw[e]at hs;rw[List.pairwise_append,List.pairwise_cons]at hs;obtain⟨_,⟨h1,_⟩,h2⟩:=hs;have hle:∀z∈A,z≤y:=fun z hz=>h2 z hz y (List.mem_cons_self ..);have eL:∀x,jd s x=jd A x+jd (y::B) x:=fun x=>by rw[e];simp[jd,List.countP_append]
 have eE:∀x,wt s x=wt A x+wt (y::B) x:=fun x=>by rw[e];simp[wt,List.countP_append]
 constructor
 ·rintro⟨c1,c2⟩
  rw[eL]at c1 c2;rw[eE]at c2;by_cases hlt:x<y
  ·have a1:=ykf (l:=y::B) (x:=x) (fun z hz=>by
    rcases List.mem_cons.1 hz with rfl|hz
    ·omega
    ·have:=h1 z hz;omega)
   have a2:=xb8 (l:=y::B) (x:=x) (fun z hz=>by
    rcases List.mem_cons.1 hz with rfl|hz
    ·omega
    ·have:=h1 z hz;omega)
   have a3:=xb4 A x;omega
  ·by_cases hgt:y<x
   ·have a1:=xb7 (l:=A) (x:=x) (fun z hz=>by have:=hle z hz;omega)
    have a2:1≤jd (y::B) x:=by
     unfold jd;rw[List.countP_cons];simp[hgt]
    omega
   ·omega
 ·rintro rfl
  rw[eL,eE]
  have a1:=ykf (l:=x::B) (x:=x) (fun z hz=>by
   rcases List.mem_cons.1 hz with rfl|hz
   ·omega
   ·exact h1 z hz)
  have a2:=yke hle
  have a3:1≤wt (x::B) x:=by
   unfold wt;rw[List.countP_cons];simp
  omega
theorem yuc(b c:Bool)(l m:List Int)(hb:l.length<4611686018427387904)(hm:l.length=m.length):∀i,i≤l.length→(zu T).loop false [.code (.loop zji),.inBlock 0,.code (.seq zlz .ret)] ⟨19,26,0,[(0,.sl b 1 (l.map zx)),(1,.sl c 1 (m.map zx)),(5,.int .i64 i)],[],0,[]⟩=some (.ret (.bool (decide (l.drop i=m.drop i))),[],0,[]):=by
 refine xh l.length ?_ fun i hi ih=> ?_
 ·rw[zq]
  have h1:=xu l.length;simp -implicitDefEqProofs only[go_sem,simprocAttr,h1];simp[hm]
 ·obtain⟨h1,h2,h3,h4,h5⟩:=ze hi hb
  obtain⟨g1,g2,g3,g4,g5⟩:=ze (l:=m) (i:=i) (by omega) (by omega);rw[zq];cases h6:(l[i] !=m[i])
  ·have h7:l[i]=m[i]:=by simpa using h6
   simp -implicitDefEqProofs only[go_sem,simprocAttr,h1,h2,h3,h4,h6,g1,g2,g3,g4,ih];simp only[h5,g5,List.cons.injEq,h7,true_and,false_and,decide_false]
  ·have h7:¬l[i]=m[i]:=by simpa using h6
   simp -implicitDefEqProofs only[go_sem,simprocAttr,h1,h2,h3,h4,h6,g1,g2,g3,g4];simp only[h5,g5,List.cons.injEq,h7,true_and,false_and,decide_false]
theorem c89(b c:Bool)(l m:List Int)(hb:l.length<4611686018427387904):(zu T).call 19 [.sl b 1 (l.map zx),.sl c 1 (m.map zx)] [] 0 []=some (.bool (decide (l=m)),[],0,[]):=by
 rw[yj0];cases h:((l.length:Int) !=m.length)
 ·have h1:l.length=m.length:=by simp at h;omega
  have h2:=yuc b c l m hb h1 0 (by omega);rw[show((0:Nat):Int)=0 from rfl,List.drop_zero,List.drop_zero]at h2;simp -implicitDefEqProofs only[go_sem,simprocAttr,h,h2]
 ·have h1:¬l.length=m.length:=by simp at h;omega
  simp -implicitDefEqProofs only[go_sem,simprocAttr,h];have:¬l=m:=fun e=>h1 (by rw[e]);simp[this]
theorem ykp(b:Bool)(l:List Int)(hb:l.length<4611686018427387904):(zu T).call 19 [.sl b 1 (l.map zx),.sl false 0 []] [] 0 []=some (.bool (decide (l= [])),[],0,[]):=by
 rw[yj0];cases l with
 |nil=>
  simp -implicitDefEqProofs only[go_sem,simprocAttr];rw[zq];simp -implicitDefEqProofs only[go_sem,simprocAttr]
 |cons x l=>
  have h:(((l.length+1:Nat):Int) !=0)=true:=by simp;omega
  simp -implicitDefEqProofs only[go_sem,simprocAttr,h]
  try simp
def xa(p:Pk):Nat:=(p.v[0]?.getD (false,[])).2.length
def col(p:Pk)(k:Nat):List Int:=p.v.map fun r=>r.2.getD k 0
def q7(p:Pk):List Int:=(List.range (xa p)).map fun k=>med (col p k)
structure Ok (p:Pk):Prop where
 v1:0<p.v.length
 v8:p.v.length≤8
 s1:0<xa p
 s8:xa p≤8
 row:∀r∈p.v,r.2.length=xa p
 en:∀r∈p.v,∀n∈r.2,0≤n∧n≤1000000
 no:0≤p.n∧p.n≤1000000
 cs:za1 p.c=0
 c8:p.c.length≤8
 ca:∀c∈p.c,0≤c.c∧c.c<p.v.length∧c.l.length=xa p
 lo:∀c∈p.c,∀x∈c.l,0≤x.1∧x.1≤x.2∧x.2≤1000000
theorem zil{n:Int}(h:uy n=0):0≤n∧n≤1000000:=by
 unfold uy at h;rw[zdc]at h;by_cases h3:n<0∨1000000<n
 ·simp[h3]at h
 ·omega
theorem zih{b:Bool}{e:Int}(h:cond b e 0=0)(he:e≠0):b=false:=by cases b<;>simp_all
theorem yka(l:List Cz):∀(r:List Cz) (i k:Nat) (h:k<r.length),csE l (i+k) r[k]∈zah l i r
 | [],_,_,h=>by cases h
 |m::r,i,0,_=>List.mem_cons_self ..
 |m::r,i,k+1,h=>by
  have:=yka l r (i+1) k (by simpa using h);rw[show i+1+k=i+(k+1) by omega]at this;exact List.mem_cons_of_mem _ this
theorem zdi{p:Pk}(h:j8 p=0):Ok p:=by
 unfold j8 at h;split at h
 ·rename_i h0
  obtain⟨k1,k2⟩:=zkj h0;have hr0:p.v[0]? =some p.v[0]:=List.getElem?_eq_getElem k1;have hs:xa p=p.v[0].2.length:=by unfold xa;rw[hr0];rfl
  rw[hr0]at h;dsimp only[Option.getD_some]at h;rw[←hs]at h;have q1:=qw.1 (qw.1 h (qo (p.v.map fun r=>g8 (xa p) r)) (by simp));have q2:=zil (qw.1 h (uy p.n) (by simp));have q3:=qw.1 h (za1 p.c) (by simp);have q4:=qw.1 (qw.1 h (qo (p.c.map fun c=>g9 p.v.length (xa p) c)) (by simp))
  have row:∀r∈p.v,r.2.length=xa p∧(0<r.2.length∧r.2.length≤8)∧∀n∈r.2,0≤n∧n≤1000000:=fun r hr=>by
   have a:=qw.1 (q1 _ (List.mem_map.2 ⟨r,hr,rfl⟩));have a1:=zkj (a (ui r.2.length 8) (by simp));have a2:=zih (a (cond ((r.2.length:Int) !=xa p) 2 0) (by simp)) (by decide);have a3:=qw.1 (a (qo (r.2.map fun n=>uy n)) (by simp));refine⟨by simp at a2;omega,a1,fun n hn=>zil (a3 _ (List.mem_map.2 ⟨n,hn,rfl⟩))⟩
  have r0:=row p.v[0] (List.getElem_mem k1)
  have hc8:p.c.length≤8∧qo (zah p.c 0 p.c)=0:=by
   unfold za1 at q3;by_cases hl:8<p.c.length
   ·rw[if_pos hl]at q3;cases q3
   ·rw[if_neg hl]at q3;exact⟨by omega,q3⟩
  have cc:∀c∈p.c,ckC c=0:=fun c hc=>by
   obtain⟨k,hk,rfl⟩:=List.mem_iff_getElem.1 hc;have a:=yka p.c p.c 0 k hk;have a:=qw.1 hc8.2 _ a;exact qw.1 a (ckC p.c[k]) (by simp)
  refine⟨k1,k2,by omega,by omega,fun r hr=>(row r hr).1,fun r hr=>(row r hr).2.2,q2,q3,hc8.1,fun c hc=> ?_,fun c hc x hx=> ?_⟩
  ·have a:=qw.1 (q4 _ (List.mem_map.2 ⟨c,hc,rfl⟩))
   have a1:=zih (a (cond (decide ((p.v.length:Int)≤c.c)) 10 0) (by simp)) (by decide);have a2:=zih (a (cond ((c.l.length:Int) !=xa p) 2 0) (by simp)) (by decide);have b:=qw.1 (cc c hc) (uj c.c 0 7) (by simp);rw[zdc]at b;simp at a1 a2;by_cases h3:c.c<0∨7<c.c
   ·simp[h3]at b
   ·omega
  ·have b:=qw.1 (qw.1 (cc c hc) (qo (c.l.map fun x=>g7 x)) (by simp)) _ (List.mem_map.2 ⟨x,hx,rfl⟩)
   have b1:=zil (qw.1 b (uy x.1) (by simp));have b2:=zil (qw.1 b (uy x.2) (by simp));have b3:=zih (qw.1 b (cond (decide (x.2<x.1)) 11 0) (by simp)) (by decide);simp at b3;omega
 ·rename_i h0;exact absurd h h0
theorem ykv(r:Bool×List Int)(k:Nat)(hk:k<r.2.length)(hr:r.2.length<1000000):(zu T).call 114 [.sl r.1 1 (r.2.map zx),.pp 1 [.int .i64 k] 0 0] [] 0 []=some (.int .i64 (r.2.getD k 0),[],0,[]):=by
 rw[xa6];obtain⟨h1,h2,h3,h4,h5⟩:=ze hk (by omega);have e:r.2.getD k 0=r.2[k]:=by rw[List.getD_eq_getElem?_getD,h3];rfl
 rw[e];simp -implicitDefEqProofs only[go_sem,simprocAttr,h2,h3]
theorem yu1(k:Nat)(b:Bool)(l:List (Bool×List Int))(hb:l.length<1000000)(hk:∀r∈l,k<r.2.length∧r.2.length<1000000):∀i,i≤l.length→∀o:Option (List (Int)),u4 o=i→
  (zu T).loop false [.code (.loop zjn),.inBlock 0,.code (.seq zl3 .ret)] ⟨113,22,0,[(1,.fn 114 [.pp 1 [.int .i64 k] 0 0]),(5,u9 o 0),(8,.sl b 1 (l.map rwV)),(9,.int .i64 l.length),(10,.int .i64 i)],gz zx o 3,0,[]⟩=
   some (.ret (uz zx 0 1 (vm o ((l.drop i).map (fun r=>r.2.getD k 0)))),[],0,[]):=by
 refine xh l.length ?_ fun i hi ih o ho=> ?_
 ·intro o ho
  rw[zq];have h1:=xu l.length;cases o with
  |none=>
   simp -implicitDefEqProofs only[go_sem,simprocAttr,h1];simp[vm,uz]
  |some a=>
   simp -implicitDefEqProofs only[go_sem,simprocAttr,h1];simp[vm,uz]
 ·obtain⟨h1,h2,h3,h4,h5⟩:=ze hi (by omega)
  rw[zq,h5];have ih':=ih (vm o [((fun r=>r.2.getD k 0) l[i])]) (by rw[kf,ho];rfl);rw[kn]at ih';dsimp only at ih';cases o with
  |none=>
   have h8:=xf (n:=0) (by omega);simp only[km,qd,qm,List.map_cons,List.map_nil,zx]at ih';simp -implicitDefEqProofs only[go_sem,simprocAttr,h1,h2,h3,h4,ih',h8.2,ykv l[i] k (hk _ (List.getElem_mem hi)).1 (hk _ (List.getElem_mem hi)).2]
  |some a=>
   have h9:a.length=i:=ho;have h8:=(xf (n:=a.length) (by omega)).1;simp only[kp,qd,qm,List.map_append,List.map_cons,List.map_nil,zx]at ih';simp -implicitDefEqProofs only[go_sem,simprocAttr,h1,h2,h3,h4,ih',h8,ykv l[i] k (hk _ (List.getElem_mem hi)).1 (hk _ (List.getElem_mem hi)).2]
theorem xee(k:Nat)(b:Bool)(l:List (Bool×List Int))(hb:l.length<1000000)(hk:∀r∈l,k<r.2.length∧r.2.length<1000000):(zu T).call 113 [.sl b 1 (l.map rwV),.fn 114 [.pp 1 [.int .i64 k] 0 0]] [] 0 []=some (k7 1 (((l).map (fun r=>r.2.getD k 0)).map zx),[],0,[]):=by
 rw[xa7];have h:=yu1 k b l hb hk 0 (by omega) none rfl;rw[show((0:Nat):Int)=0 from rfl,List.drop_zero,zal]at h;simp only[vz,vx]at h;simp -implicitDefEqProofs only[go_sem,simprocAttr,h]
theorem xed(p:Pk)(b:Bool)(k:Nat)(ho:Ok p)(hk:k<xa p):(zu T).call 113 [.sl b 1 (p.v.map rwV),.fn 114 [.pp 1 [.int .i64 k] 0 0]] [] 0 []=some (k7 1 ((col p k).map zx),[],0,[]):=
 xee k b p.v (by have:=ho.v8;omega) (fun r hr=>by have:=ho.row r hr;have:=ho.s8;omega)
theorem zex(p:Pk):(q7 p).length=xa p:=by simp[q7]
theorem ytq(p:Pk)(k:Nat)(h:k<(q7 p).length):(q7 p)[k]=med (col p k):=by simp[q7]
theorem ykd(p:Pk)(k:Nat):(col p k).length=p.v.length:=by simp[col]
def zj0(p:Pk)(o:Option (List Int))(k:Nat):Option Out:=
 (zu T).loop false [.code (.loop zi2),.inBlock 0,.code (.seq zlf .ret)]
  ⟨86,23,0,[(1,.ptr 0 0 0),(3,u9 o 1),(9,.int .i64 (q7 p).length),(10,.int .i64 k)],.cells true true 76 [xq p]::gz zx o 3,0,[]⟩
theorem yvh(p:Pk)(ho:Ok p):∀k,k≤(q7 p).length→∀o,u4 o=k→zj0 p o k=some (.ret (uz zx 0 1 (vm o ((q7 p).drop k))),[],0,[]):=by
 have hs8:=ho.s8;have hml:=zex p;refine xh (q7 p).length ?_ fun k hk ih o hO=> ?_
 ·intro o hO
  unfold zj0;rw[zq];have h1:=xu (q7 p).length;have h0:(q7 p).drop (q7 p).length= []:=by simp
  rw[h0,zou];cases o with
  |none=>simp -implicitDefEqProofs only[go_sem,simprocAttr,xq,h1]
  |some a=>simp -implicitDefEqProofs only[go_sem,simprocAttr,xq,h1]
 ·obtain⟨h1,h2,h3,h4,h5⟩:=ze hk (by omega)
  rw[h5];have e1:=xed p p.vb k ho (by omega);have e2:=xef (!((col p k).map zx).isEmpty) (col p k) (by rw[ykd];have:=ho.v8;omega) (by rw[ykd];exact ho.v1);rw[←ytq p k hk]at e2;have ih':=ih (vm o [(q7 p)[k]]) (by rw[kf,hO];rfl);rw[kn]at ih';unfold zj0 at ih'⊢;rw[zq];cases o with
  |none=>
   have h8:=xf (n:=0) (by omega);simp only[km,qd,qm,vz,vx,List.map_cons,List.map_nil,zx,xq]at ih'⊢;simp -implicitDefEqProofs only[go_sem,simprocAttr,h1,h2,h3,h4,e1,e2,ih',h8.2]
  |some a=>
   have h9:a.length=k:=hO;have h8:=(xf (n:=a.length) (by omega)).1;simp only[kp,qd,qm,List.map_append,List.map_cons,List.map_nil,zx,xq]at ih'⊢;simp -implicitDefEqProofs only[go_sem,simprocAttr,h1,h2,h3,h4,e1,e2,ih',h8]
theorem zpj{p:Pk}(ho:Ok p):∃r0,p.v[0]? =some r0∧r0.2.length=(q7 p).length∧decide (0<(p.v.length:Int))=true:=by
 have hv:=ho.v1;have hr0:p.v[0]? =some p.v[0]:=List.getElem?_eq_getElem hv;exact⟨p.v[0]'hv,hr0,by rw[zex];unfold xa;rw[hr0];rfl,znj hr0⟩
theorem xe4(p:Pk)(ho:Ok p):(zu T).call 86 [xq p] [] 0 []=some (k7 1 ((q7 p).map zx),[],0,[]):=by
 rw[yzm];have h:=yvh p ho 0 (by omega) none rfl;rw[List.drop_zero,zal]at h;unfold zj0 at h;obtain⟨r0,g1,g2,g3⟩:=zpj ho;simp only[vz,vx,show((0:Nat):Int)=0 from rfl,xq]at h;simp -implicitDefEqProofs only[go_sem,simprocAttr,xq,g1,g2,g3,h]
def gk(m l:List Int):List Int:=List.zipWith (fun a b=>IntKind.i64.wrap (a- b)) m l
theorem zpv(m l:List Int)(h:l.length=m.length):(gk m l).length=l.length:=by simp[gk,h]
theorem ypd(m l:List Int)(i:Nat)(h1:i<l.length)(h2:i<m.length):(gk m l).drop i=IntKind.i64.wrap (m[i]- l[i])::(gk m l).drop (i+1):=by
 rw[List.drop_eq_getElem_cons (by simp[gk];omega)];simp[gk]
theorem yuz(b mb:Bool)(m l:List Int)(hb:l.length<1000000)(hm:l.length=m.length):∀i,i≤l.length→∀o:Option (List Int),u4 o=i→
  (zu T).loop false [.code (.loop zi0),.inBlock 0,.code (.seq zld .ret)] ⟨88,25,0,[(1,.pp 1 [.sl mb 1 (m.map zx)] 0 0),(4,u9 o 0),(7,.sl b 1 (l.map zx)),(8,.int .i64 l.length),(9,.int .i64 i)],gz zx o 3,0,[]⟩=
   some (.ret (uz zx 0 1 (vm o ((gk m l).drop i))),[],0,[]):=by
 refine xh l.length ?_ fun i hi ih o ho=> ?_
 ·intro o ho
  rw[zq];have h1:=xu l.length;have h0:(gk m l).drop l.length= []:=by rw[←zpv m l hm];simp
  rw[h0,zou];cases o with
  |none=>
   simp -implicitDefEqProofs only[go_sem,simprocAttr,h1]
  |some a=>
   simp -implicitDefEqProofs only[go_sem,simprocAttr,h1]
 ·obtain⟨h1,h2,h3,h4,h5⟩:=ze hi (by omega)
  obtain⟨g1,g2,g3,g4,g5⟩:=ze (l:=m) (i:=i) (by omega) (by omega);rw[zq,ypd m l i hi (by omega)];have ih':=ih (vm o [IntKind.i64.wrap (m[i]- l[i])]) (by rw[kf,ho];rfl);rw[kn]at ih';cases o with
  |none=>
   have h8:=xf (n:=0) (by omega);simp only[km,qd,qm,List.map_cons,List.map_nil,zx]at ih';simp -implicitDefEqProofs only[go_sem,simprocAttr,h1,h2,h3,h4,g2,g3,ih',h8.2]
  |some a=>
   have h9:a.length=i:=ho;have h8:=(xf (n:=a.length) (by omega)).1;simp only[kp,qd,qm,List.map_append,List.map_cons,List.map_nil,zx]at ih';simp -implicitDefEqProofs only[go_sem,simprocAttr,h1,h2,h3,h4,g2,g3,ih',h8]
theorem yku(r:Bool×List Int)(mb:Bool)(m:List Int)(hr:r.2.length<1000000∧r.2.length=m.length):(zu T).call 88 [.sl r.1 1 (r.2.map zx),.pp 1 [.sl mb 1 (m.map zx)] 0 0] [] 0 []=some (k7 1 ((gk m r.2).map zx),[],0,[]):=by
 rw[yzk];have h:=yuz r.1 mb m r.2 hr.1 hr.2 0 (by omega) none rfl;rw[show((0:Nat):Int)=0 from rfl,List.drop_zero,zal]at h;simp only[vz,vx]at h;simp -implicitDefEqProofs only[go_sem,simprocAttr,h]
def gh(m:List Int)(r:Bool×List Int):Bool×List Int:=(!((gk m r.2).map zx).isEmpty,gk m r.2)
theorem yu0(mb:Bool)(m:List Int)(b:Bool)(l:List (Bool×List Int))(hb:l.length<1000000)(hk:∀r∈l,r.2.length<1000000∧r.2.length=m.length):∀i,i≤l.length→∀o:Option (List (Bool×List Int)),u4 o=i→
  (zu T).loop false [.code (.loop zi1),.inBlock 0,.code (.seq zle .ret)] ⟨87,22,0,[(1,.fn 88 [.pp 1 [.sl mb 1 (m.map zx)] 0 0]),(5,u9 o 0),(8,.sl b 1 (l.map rwV)),(9,.int .i64 l.length),(10,.int .i64 i)],gz rwV o 39,0,[]⟩=
   some (.ret (uz rwV 0 1 (vm o ((l.drop i).map (fun r=>gh m r)))),[],0,[]):=by
 refine xh l.length ?_ fun i hi ih o ho=> ?_
 ·intro o ho
  rw[zq];have h1:=xu l.length;cases o with
  |none=>
   simp -implicitDefEqProofs only[go_sem,simprocAttr,h1];simp[vm,uz]
  |some a=>
   simp -implicitDefEqProofs only[go_sem,simprocAttr,h1];simp[vm,uz]
 ·obtain⟨h1,h2,h3,h4,h5⟩:=ze hi (by omega)
  rw[zq,h5];have ih':=ih (vm o [((fun r=>gh m r) l[i])]) (by rw[kf,ho];rfl);rw[kn]at ih';dsimp only at ih';cases o with
  |none=>
   have h8:=xf (n:=0) (by omega);simp only[km,qd,qm,List.map_cons,List.map_nil,rwV,gh]at ih';simp -implicitDefEqProofs only[go_sem,simprocAttr,h1,h2,h3,h4,ih',h8.2,gh,yku l[i] mb m (hk _ (List.getElem_mem hi))]
  |some a=>
   have h9:a.length=i:=ho;have h8:=(xf (n:=a.length) (by omega)).1;simp only[kp,qd,qm,List.map_append,List.map_cons,List.map_nil,rwV,gh]at ih';simp -implicitDefEqProofs only[go_sem,simprocAttr,h1,h2,h3,h4,ih',h8,gh,yku l[i] mb m (hk _ (List.getElem_mem hi))]
theorem xec(mb:Bool)(m:List Int)(b:Bool)(l:List (Bool×List Int))(hb:l.length<1000000)(hk:∀r∈l,r.2.length<1000000∧r.2.length=m.length):(zu T).call 87 [.sl b 1 (l.map rwV),.fn 88 [.pp 1 [.sl mb 1 (m.map zx)] 0 0]] [] 0 []=some (k7 1 (((l).map (fun r=>gh m r)).map rwV),[],0,[]):=by
 rw[yzl];have h:=yu0 mb m b l hb hk 0 (by omega) none rfl;rw[show((0:Nat):Int)=0 from rfl,List.drop_zero,zal]at h;simp only[vz,vx]at h;simp -implicitDefEqProofs only[go_sem,simprocAttr,h]
def jv(p:Pk):List (Bool×List Int):=p.v.map fun r=>gh (q7 p) r
theorem zmg{p:Pk}(ho:Ok p):∀r∈p.v,r.2.length<1000000∧r.2.length=(q7 p).length:=fun r hr=>by
 have:=ho.row r hr;have:=ho.s8;rw[zex];omega
theorem yk5(p:Pk)(ho:Ok p):(zu T).call 42 [xq p] [] 0 []=some (.sl (!((jv p).map rwV).isEmpty) 1 ((jv p).map rwV),[],0,[]):=by
 rw[xaf];have e1:=xe4 p ho;have e2:=xec (!((q7 p).map zx).isEmpty) (q7 p) p.vb p.v (by have:=ho.v8;omega) (zmg ho);rw[show List.map (fun r=>gh (q7 p) r) p.v=jv p from rfl]at e2;simp only[xq]at e1;simp -implicitDefEqProofs only[go_sem,simprocAttr,xq,e1,e2]
theorem c19(p:Pk)(hf:p.fit):(zu T).call 16 [xq p] [] 0 []=some (if j8 p=0 then .tup [.sl (!((jv p).map rwV).isEmpty) 1 ((jv p).map rwV),.int .i64 0]else .tup [.sl false 0 [],.int .i64 (j8 p)],[],0,[]):=by
 rw[xat];have e1:=c23 p hf;simp only[xq]at e1;cases h:(j8 p !=0)
 ·have h0:j8 p=0:=by simpa using h
  rw[if_pos h0];have e2:=yk5 p (zdi h0);simp only[xq]at e2;simp -implicitDefEqProofs only[go_sem,simprocAttr,xq,e1,h,e2]
 ·have h0:¬j8 p=0:=by simpa using h
  rw[if_neg h0];simp -implicitDefEqProofs only[go_sem,simprocAttr,xq,e1,h]
def jb(x:Int×Int):V:= .agg [.int .i64 x.1,.int .i64 x.2]
attribute [go_sem] jb
def z0(s:Nat):List (Int×Int):=List.replicate s (0,0)
theorem yp0(s:Nat):List.replicate s (V.agg [.int .i64 0,.int .i64 0])=(z0 s).map v9:=by
 unfold z0;rw[List.map_replicate];rfl
theorem zbr(r:Bool×List Int)(hr:r.2.length<1000):(zu T).call 120 [.sl r.1 1 (r.2.map zx)] [] 0 []=some (.ref 0,[.cells false true 100 ((z0 r.2.length).map v9)],0,[]):=by
 rw[xa3];have d1:decide (0≤(r.2.length:Int)∧(r.2.length:Int)≤(r.2.length:Int)∧(r.2.length:Int)<(maxRow:Int))=true:=decide_eq_true ⟨by omega,by omega,by unfold maxRow;omega⟩;simp -implicitDefEqProofs only[go_sem,simprocAttr,d1,yp0]
theorem ux(n:Nat)(h:n<10):decide (n+1<maxRow)=true:=(xf (by omega)).1
theorem xe1(b:Bool)(r1:Bool×List Int)(hr1:r1.2.length<1000):(zu T).call 119 [.sl b 1 [.sl r1.1 1 (r1.2.map zx)],.fn 120 []] [] 0 []=some (.ref 0,[.cells false false 101 [.ref 1],.cells false true 100 ((z0 r1.2.length).map v9)],0,[]):=by
 rw[zbp];simp -implicitDefEqProofs only[go_sem,simprocAttr]
 iterate 1
  rw[zq];simp -implicitDefEqProofs only[go_sem,simprocAttr,zbr,hr1,(xf (n:=0) (by omega)).2,wrap64,Int.reduceAdd]
 rw[zq];simp -implicitDefEqProofs only[go_sem,simprocAttr]
theorem xe0(b:Bool)(r1 r2:Bool×List Int)(hr1:r1.2.length<1000)(hr2:r2.2.length<1000):(zu T).call 119 [.sl b 1 [.sl r1.1 1 (r1.2.map zx),.sl r2.1 1 (r2.2.map zx)],.fn 120 []] [] 0 []=some (.ref 0,[.cells false false 101 [.ref 1,.ref 2],.cells false true 100 ((z0 r1.2.length).map v9),.cells false true 100 ((z0 r2.2.length).map v9)],0,[]):=by
 rw[zbp];simp -implicitDefEqProofs only[go_sem,simprocAttr]
 iterate 2
  rw[zq];simp -implicitDefEqProofs only[go_sem,simprocAttr,zbr,hr1,hr2,(xf (n:=0) (by omega)).2,ux 1 (by omega),wrap64,Int.reduceAdd]
 rw[zq];simp -implicitDefEqProofs only[go_sem,simprocAttr]
theorem xez(b:Bool)(r1 r2 r3:Bool×List Int)(hr1:r1.2.length<1000)(hr2:r2.2.length<1000)(hr3:r3.2.length<1000):(zu T).call 119 [.sl b 1 [.sl r1.1 1 (r1.2.map zx),.sl r2.1 1 (r2.2.map zx),.sl r3.1 1 (r3.2.map zx)],.fn 120 []] [] 0 []=some (.ref 0,[.cells false false 101 [.ref 1,.ref 2,.ref 3],.cells false true 100 ((z0 r1.2.length).map v9),.cells false true 100 ((z0 r2.2.length).map v9),.cells false true 100 ((z0 r3.2.length).map v9)],0,[]):=by
 rw[zbp];simp -implicitDefEqProofs only[go_sem,simprocAttr]
 iterate 3
  rw[zq];simp -implicitDefEqProofs only[go_sem,simprocAttr,zbr,hr1,hr2,hr3,(xf (n:=0) (by omega)).2,ux 1 (by omega),ux 2 (by omega),wrap64,Int.reduceAdd]
 rw[zq];simp -implicitDefEqProofs only[go_sem,simprocAttr]
theorem xey(b:Bool)(r1 r2 r3 r4:Bool×List Int)(hr1:r1.2.length<1000)(hr2:r2.2.length<1000)(hr3:r3.2.length<1000)(hr4:r4.2.length<1000):(zu T).call 119 [.sl b 1 [.sl r1.1 1 (r1.2.map zx),.sl r2.1 1 (r2.2.map zx),.sl r3.1 1 (r3.2.map zx),.sl r4.1 1 (r4.2.map zx)],.fn 120 []] [] 0 []=some (.ref 0,[.cells false false 101 [.ref 1,.ref 2,.ref 3,.ref 4],.cells false true 100 ((z0 r1.2.length).map v9),.cells false true 100 ((z0 r2.2.length).map v9),.cells false true 100 ((z0 r3.2.length).map v9),.cells false true 100 ((z0 r4.2.length).map v9)],0,[]):=by
 rw[zbp];simp -implicitDefEqProofs only[go_sem,simprocAttr]
 iterate 4
  rw[zq];simp -implicitDefEqProofs only[go_sem,simprocAttr,zbr,hr1,hr2,hr3,hr4,(xf (n:=0) (by omega)).2,ux 1 (by omega),ux 2 (by omega),ux 3 (by omega),wrap64,Int.reduceAdd]
 rw[zq];simp -implicitDefEqProofs only[go_sem,simprocAttr]
theorem xex(b:Bool)(r1 r2 r3 r4 r5:Bool×List Int)(hr1:r1.2.length<1000)(hr2:r2.2.length<1000)(hr3:r3.2.length<1000)(hr4:r4.2.length<1000)(hr5:r5.2.length<1000):(zu T).call 119 [.sl b 1 [.sl r1.1 1 (r1.2.map zx),.sl r2.1 1 (r2.2.map zx),.sl r3.1 1 (r3.2.map zx),.sl r4.1 1 (r4.2.map zx),.sl r5.1 1 (r5.2.map zx)],.fn 120 []] [] 0 []=some (.ref 0,[.cells false false 101 [.ref 1,.ref 2,.ref 3,.ref 4,.ref 5],.cells false true 100 ((z0 r1.2.length).map v9),.cells false true 100 ((z0 r2.2.length).map v9),.cells false true 100 ((z0 r3.2.length).map v9),.cells false true 100 ((z0 r4.2.length).map v9),.cells false true 100 ((z0 r5.2.length).map v9)],0,[]):=by
 rw[zbp];simp -implicitDefEqProofs only[go_sem,simprocAttr]
 iterate 5
  rw[zq];simp -implicitDefEqProofs only[go_sem,simprocAttr,zbr,hr1,hr2,hr3,hr4,hr5,(xf (n:=0) (by omega)).2,ux 1 (by omega),ux 2 (by omega),ux 3 (by omega),ux 4 (by omega),wrap64,Int.reduceAdd]
 rw[zq];simp -implicitDefEqProofs only[go_sem,simprocAttr]
theorem xew(b:Bool)(r1 r2 r3 r4 r5 r6:Bool×List Int)(hr1:r1.2.length<1000)(hr2:r2.2.length<1000)(hr3:r3.2.length<1000)(hr4:r4.2.length<1000)(hr5:r5.2.length<1000)(hr6:r6.2.length<1000):(zu T).call 119 [.sl b 1 [.sl r1.1 1 (r1.2.map zx),.sl r2.1 1 (r2.2.map zx),.sl r3.1 1 (r3.2.map zx),.sl r4.1 1 (r4.2.map zx),.sl r5.1 1 (r5.2.map zx),.sl r6.1 1 (r6.2.map zx)],.fn 120 []] [] 0 []=some (.ref 0,[.cells false false 101 [.ref 1,.ref 2,.ref 3,.ref 4,.ref 5,.ref 6],.cells false true 100 ((z0 r1.2.length).map v9),.cells false true 100 ((z0 r2.2.length).map v9),.cells false true 100 ((z0 r3.2.length).map v9),.cells false true 100 ((z0 r4.2.length).map v9),.cells false true 100 ((z0 r5.2.length).map v9),.cells false true 100 ((z0 r6.2.length).map v9)],0,[]):=by
 rw[zbp];simp -implicitDefEqProofs only[go_sem,simprocAttr]
 iterate 6
  rw[zq];simp -implicitDefEqProofs only[go_sem,simprocAttr,zbr,hr1,hr2,hr3,hr4,hr5,hr6,(xf (n:=0) (by omega)).2,ux 1 (by omega),ux 2 (by omega),ux 3 (by omega),ux 4 (by omega),ux 5 (by omega),wrap64,Int.reduceAdd]
 rw[zq];simp -implicitDefEqProofs only[go_sem,simprocAttr]
theorem xev(b:Bool)(r1 r2 r3 r4 r5 r6 r7:Bool×List Int)(hr1:r1.2.length<1000)(hr2:r2.2.length<1000)(hr3:r3.2.length<1000)(hr4:r4.2.length<1000)(hr5:r5.2.length<1000)(hr6:r6.2.length<1000)(hr7:r7.2.length<1000):(zu T).call 119 [.sl b 1 [.sl r1.1 1 (r1.2.map zx),.sl r2.1 1 (r2.2.map zx),.sl r3.1 1 (r3.2.map zx),.sl r4.1 1 (r4.2.map zx),.sl r5.1 1 (r5.2.map zx),.sl r6.1 1 (r6.2.map zx),.sl r7.1 1 (r7.2.map zx)],.fn 120 []] [] 0 []=some (.ref 0,[.cells false false 101 [.ref 1,.ref 2,.ref 3,.ref 4,.ref 5,.ref 6,.ref 7],.cells false true 100 ((z0 r1.2.length).map v9),.cells false true 100 ((z0 r2.2.length).map v9),.cells false true 100 ((z0 r3.2.length).map v9),.cells false true 100 ((z0 r4.2.length).map v9),.cells false true 100 ((z0 r5.2.length).map v9),.cells false true 100 ((z0 r6.2.length).map v9),.cells false true 100 ((z0 r7.2.length).map v9)],0,[]):=by
 rw[zbp];simp -implicitDefEqProofs only[go_sem,simprocAttr]
 iterate 7
  rw[zq];simp -implicitDefEqProofs only[go_sem,simprocAttr,zbr,hr1,hr2,hr3,hr4,hr5,hr6,hr7,(xf (n:=0) (by omega)).2,ux 1 (by omega),ux 2 (by omega),ux 3 (by omega),ux 4 (by omega),ux 5 (by omega),ux 6 (by omega),wrap64,Int.reduceAdd]
 rw[zq];simp -implicitDefEqProofs only[go_sem,simprocAttr]
theorem xeu(b:Bool)(r1 r2 r3 r4 r5 r6 r7 r8:Bool×List Int)(hr1:r1.2.length<1000)(hr2:r2.2.length<1000)(hr3:r3.2.length<1000)(hr4:r4.2.length<1000)(hr5:r5.2.length<1000)(hr6:r6.2.length<1000)(hr7:r7.2.length<1000)(hr8:r8.2.length<1000):(zu T).call 119 [.sl b 1 [.sl r1.1 1 (r1.2.map zx),.sl r2.1 1 (r2.2.map zx),.sl r3.1 1 (r3.2.map zx),.sl r4.1 1 (r4.2.map zx),.sl r5.1 1 (r5.2.map zx),.sl r6.1 1 (r6.2.map zx),.sl r7.1 1 (r7.2.map zx),.sl r8.1 1 (r8.2.map zx)],.fn 120 []] [] 0 []=some (.ref 0,[.cells false false 101 [.ref 1,.ref 2,.ref 3,.ref 4,.ref 5,.ref 6,.ref 7,.ref 8],.cells false true 100 ((z0 r1.2.length).map v9),.cells false true 100 ((z0 r2.2.length).map v9),.cells false true 100 ((z0 r3.2.length).map v9),.cells false true 100 ((z0 r4.2.length).map v9),.cells false true 100 ((z0 r5.2.length).map v9),.cells false true 100 ((z0 r6.2.length).map v9),.cells false true 100 ((z0 r7.2.length).map v9),.cells false true 100 ((z0 r8.2.length).map v9)],0,[]):=by
 rw[zbp];simp -implicitDefEqProofs only[go_sem,simprocAttr]
 iterate 8
  rw[zq];simp -implicitDefEqProofs only[go_sem,simprocAttr,zbr,hr1,hr2,hr3,hr4,hr5,hr6,hr7,hr8,(xf (n:=0) (by omega)).2,ux 1 (by omega),ux 2 (by omega),ux 3 (by omega),ux 4 (by omega),ux 5 (by omega),ux 6 (by omega),ux 7 (by omega),wrap64,Int.reduceAdd]
 rw[zq];simp -implicitDefEqProofs only[go_sem,simprocAttr]
def q9(a b:Int×Int):Int×Int:=(IntKind.i64.wrap (a.1+b.1),IntKind.i64.wrap (a.2+b.2))
def u6(n:Nat):List V:=(List.range n).map fun k=> .ref (k+2)
def xm(p:Pk)(R:List (List (Int×Int)))(sb:Bool)(z:Nat)(st:List Int)(t:Nat)(c:Cz)(k:Nat):Option Out:=
 (zu T).loop false [.code (.loop zix),.inBlock 2,.inBlock 1,.code zk8,.inLoop zfx,.inBlock 0,.code (.seq zgz .ret)]
  ⟨97,64,0,[(2,.ptr 0 0 0),(5,.ref 1),(8,.ptr (R.length+2) 0 0),(14,.sl sb z (st.map zx)),(15,.int .i64 st.length),(16,.int .i64 t),(26,.sl c.b 2 (c.l.map v9)),(27,.int .i64 c.l.length),(28,.int .i64 k)],
   .cells true true 76 [xq p]:: .cells false false 101 (u6 R.length)::(R.map (fun l=> .cells false true 100 (l.map v9))++ [.cells true true 103 [czV c]]),0,[]⟩
theorem yoe(p:Pk)(a0:List (Int×Int))(sb:Bool)(z:Nat)(st:List Int)(t:Nat)(c:Cz)(k:Nat)(j:Nat)(hj:c.c=(j:Int))(hjn:j<1)(x:List (Int×Int))(hx: [a0][j]? =some x)(hk:k<c.l.length)(hkx:k<x.length)(hc:c.l.length<1000000)(hxl:x.length<1000000):
  xm p [a0] sb z st t c k=xm p ([a0].set j (x.set k (q9 x[k] c.l[k]))) sb z st t c (k+1):=by
 obtain⟨h1,h2,h3,h4,h5⟩:=ze hk (by omega);obtain⟨g1,g2,g3,g4,g5⟩:=ze hkx (by omega);have hs:∀v,(x.set k v)[k]? =some v:=fun v=>by rw[List.getElem?_set_self hkx]
 have hj':j=0:=by omega
 conv=>lhs;unfold xm;rw[zq]
 unfold xm;rcases hj' with rfl
 all_goals
  obtain rfl:=Option.some.inj hx;simp only[u6,List.length_cons,List.length_nil,Nat.reduceAdd,List.range_succ,List.range_zero,List.nil_append,List.cons_append,List.map_cons,List.map_nil,List.map_append,List.set_cons_zero,List.set_cons_succ,xq,czV,hj];simp -implicitDefEqProofs only[go_sem,simprocAttr,xq,h1,h2,h3,h4,g2,g3,hj,hkx,List.length_map,List.length_set,List.getElem?_map,q9,List.map_set,List.getElem?_set_self,List.set_set]
theorem yod(p:Pk)(a0 a1:List (Int×Int))(sb:Bool)(z:Nat)(st:List Int)(t:Nat)(c:Cz)(k:Nat)(j:Nat)(hj:c.c=(j:Int))(hjn:j<2)(x:List (Int×Int))(hx: [a0,a1][j]? =some x)(hk:k<c.l.length)(hkx:k<x.length)(hc:c.l.length<1000000)(hxl:x.length<1000000):
  xm p [a0,a1] sb z st t c k=xm p ([a0,a1].set j (x.set k (q9 x[k] c.l[k]))) sb z st t c (k+1):=by
 obtain⟨h1,h2,h3,h4,h5⟩:=ze hk (by omega);obtain⟨g1,g2,g3,g4,g5⟩:=ze hkx (by omega);have hs:∀v,(x.set k v)[k]? =some v:=fun v=>by rw[List.getElem?_set_self hkx]
 have hj':j=0∨j=1:=by omega
 conv=>lhs;unfold xm;rw[zq]
 unfold xm;rcases hj' with rfl|rfl
 all_goals
  obtain rfl:=Option.some.inj hx;simp only[u6,List.length_cons,List.length_nil,Nat.reduceAdd,List.range_succ,List.range_zero,List.nil_append,List.cons_append,List.map_cons,List.map_nil,List.map_append,List.set_cons_zero,List.set_cons_succ,xq,czV,hj];simp -implicitDefEqProofs only[go_sem,simprocAttr,xq,h1,h2,h3,h4,g2,g3,hj,hkx,List.length_map,List.length_set,List.getElem?_map,q9,List.map_set,List.getElem?_set_self,List.set_set]
theorem yoc(p:Pk)(a0 a1 a2:List (Int×Int))(sb:Bool)(z:Nat)(st:List Int)(t:Nat)(c:Cz)(k:Nat)(j:Nat)(hj:c.c=(j:Int))(hjn:j<3)(x:List (Int×Int))(hx: [a0,a1,a2][j]? =some x)(hk:k<c.l.length)(hkx:k<x.length)(hc:c.l.length<1000000)(hxl:x.length<1000000):
  xm p [a0,a1,a2] sb z st t c k=xm p ([a0,a1,a2].set j (x.set k (q9 x[k] c.l[k]))) sb z st t c (k+1):=by
 obtain⟨h1,h2,h3,h4,h5⟩:=ze hk (by omega);obtain⟨g1,g2,g3,g4,g5⟩:=ze hkx (by omega);have hs:∀v,(x.set k v)[k]? =some v:=fun v=>by rw[List.getElem?_set_self hkx]
 have hj':j=0∨j=1∨j=2:=by omega
 conv=>lhs;unfold xm;rw[zq]
 unfold xm;rcases hj' with rfl|rfl|rfl
 all_goals
  obtain rfl:=Option.some.inj hx;simp only[u6,List.length_cons,List.length_nil,Nat.reduceAdd,List.range_succ,List.range_zero,List.nil_append,List.cons_append,List.map_cons,List.map_nil,List.map_append,List.set_cons_zero,List.set_cons_succ,xq,czV,hj];simp -implicitDefEqProofs only[go_sem,simprocAttr,xq,h1,h2,h3,h4,g2,g3,hj,hkx,List.length_map,List.length_set,List.getElem?_map,q9,List.map_set,List.getElem?_set_self,List.set_set]
theorem yob(p:Pk)(a0 a1 a2 a3:List (Int×Int))(sb:Bool)(z:Nat)(st:List Int)(t:Nat)(c:Cz)(k:Nat)(j:Nat)(hj:c.c=(j:Int))(hjn:j<4)(x:List (Int×Int))(hx: [a0,a1,a2,a3][j]? =some x)(hk:k<c.l.length)(hkx:k<x.length)(hc:c.l.length<1000000)(hxl:x.length<1000000):
  xm p [a0,a1,a2,a3] sb z st t c k=xm p ([a0,a1,a2,a3].set j (x.set k (q9 x[k] c.l[k]))) sb z st t c (k+1):=by
 obtain⟨h1,h2,h3,h4,h5⟩:=ze hk (by omega);obtain⟨g1,g2,g3,g4,g5⟩:=ze hkx (by omega);have hs:∀v,(x.set k v)[k]? =some v:=fun v=>by rw[List.getElem?_set_self hkx]
 have hj':j=0∨j=1∨j=2∨j=3:=by omega
 conv=>lhs;unfold xm;rw[zq]
 unfold xm;rcases hj' with rfl|rfl|rfl|rfl
 all_goals
  obtain rfl:=Option.some.inj hx;simp only[u6,List.length_cons,List.length_nil,Nat.reduceAdd,List.range_succ,List.range_zero,List.nil_append,List.cons_append,List.map_cons,List.map_nil,List.map_append,List.set_cons_zero,List.set_cons_succ,xq,czV,hj];simp -implicitDefEqProofs only[go_sem,simprocAttr,xq,h1,h2,h3,h4,g2,g3,hj,hkx,List.length_map,List.length_set,List.getElem?_map,q9,List.map_set,List.getElem?_set_self,List.set_set]
theorem yoa(p:Pk)(a0 a1 a2 a3 a4:List (Int×Int))(sb:Bool)(z:Nat)(st:List Int)(t:Nat)(c:Cz)(k:Nat)(j:Nat)(hj:c.c=(j:Int))(hjn:j<5)(x:List (Int×Int))(hx: [a0,a1,a2,a3,a4][j]? =some x)(hk:k<c.l.length)(hkx:k<x.length)(hc:c.l.length<1000000)(hxl:x.length<1000000):
  xm p [a0,a1,a2,a3,a4] sb z st t c k=xm p ([a0,a1,a2,a3,a4].set j (x.set k (q9 x[k] c.l[k]))) sb z st t c (k+1):=by
 obtain⟨h1,h2,h3,h4,h5⟩:=ze hk (by omega);obtain⟨g1,g2,g3,g4,g5⟩:=ze hkx (by omega);have hs:∀v,(x.set k v)[k]? =some v:=fun v=>by rw[List.getElem?_set_self hkx]
 have hj':j=0∨j=1∨j=2∨j=3∨j=4:=by omega
 conv=>lhs;unfold xm;rw[zq]
 unfold xm;rcases hj' with rfl|rfl|rfl|rfl|rfl
 all_goals
  obtain rfl:=Option.some.inj hx;simp only[u6,List.length_cons,List.length_nil,Nat.reduceAdd,List.range_succ,List.range_zero,List.nil_append,List.cons_append,List.map_cons,List.map_nil,List.map_append,List.set_cons_zero,List.set_cons_succ,xq,czV,hj];simp -implicitDefEqProofs only[go_sem,simprocAttr,xq,h1,h2,h3,h4,g2,g3,hj,hkx,List.length_map,List.length_set,List.getElem?_map,q9,List.map_set,List.getElem?_set_self,List.set_set]
theorem yn9(p:Pk)(a0 a1 a2 a3 a4 a5:List (Int×Int))(sb:Bool)(z:Nat)(st:List Int)(t:Nat)(c:Cz)(k:Nat)(j:Nat)(hj:c.c=(j:Int))(hjn:j<6)(x:List (Int×Int))(hx: [a0,a1,a2,a3,a4,a5][j]? =some x)(hk:k<c.l.length)(hkx:k<x.length)(hc:c.l.length<1000000)(hxl:x.length<1000000):
  xm p [a0,a1,a2,a3,a4,a5] sb z st t c k=xm p ([a0,a1,a2,a3,a4,a5].set j (x.set k (q9 x[k] c.l[k]))) sb z st t c (k+1):=by
 obtain⟨h1,h2,h3,h4,h5⟩:=ze hk (by omega);obtain⟨g1,g2,g3,g4,g5⟩:=ze hkx (by omega);have hs:∀v,(x.set k v)[k]? =some v:=fun v=>by rw[List.getElem?_set_self hkx]
 have hj':j=0∨j=1∨j=2∨j=3∨j=4∨j=5:=by omega
 conv=>lhs;unfold xm;rw[zq]
 unfold xm;rcases hj' with rfl|rfl|rfl|rfl|rfl|rfl
 all_goals
  obtain rfl:=Option.some.inj hx;simp only[u6,List.length_cons,List.length_nil,Nat.reduceAdd,List.range_succ,List.range_zero,List.nil_append,List.cons_append,List.map_cons,List.map_nil,List.map_append,List.set_cons_zero,List.set_cons_succ,xq,czV,hj];simp -implicitDefEqProofs only[go_sem,simprocAttr,xq,h1,h2,h3,h4,g2,g3,hj,hkx,List.length_map,List.length_set,List.getElem?_map,q9,List.map_set,List.getElem?_set_self,List.set_set]
theorem yn8(p:Pk)(a0 a1 a2 a3 a4 a5 a6:List (Int×Int))(sb:Bool)(z:Nat)(st:List Int)(t:Nat)(c:Cz)(k:Nat)(j:Nat)(hj:c.c=(j:Int))(hjn:j<7)(x:List (Int×Int))(hx: [a0,a1,a2,a3,a4,a5,a6][j]? =some x)(hk:k<c.l.length)(hkx:k<x.length)(hc:c.l.length<1000000)(hxl:x.length<1000000):
  xm p [a0,a1,a2,a3,a4,a5,a6] sb z st t c k=xm p ([a0,a1,a2,a3,a4,a5,a6].set j (x.set k (q9 x[k] c.l[k]))) sb z st t c (k+1):=by
 obtain⟨h1,h2,h3,h4,h5⟩:=ze hk (by omega);obtain⟨g1,g2,g3,g4,g5⟩:=ze hkx (by omega);have hs:∀v,(x.set k v)[k]? =some v:=fun v=>by rw[List.getElem?_set_self hkx]
 have hj':j=0∨j=1∨j=2∨j=3∨j=4∨j=5∨j=6:=by omega
 conv=>lhs;unfold xm;rw[zq]
 unfold xm;rcases hj' with rfl|rfl|rfl|rfl|rfl|rfl|rfl
 all_goals
  obtain rfl:=Option.some.inj hx;simp only[u6,List.length_cons,List.length_nil,Nat.reduceAdd,List.range_succ,List.range_zero,List.nil_append,List.cons_append,List.map_cons,List.map_nil,List.map_append,List.set_cons_zero,List.set_cons_succ,xq,czV,hj];simp -implicitDefEqProofs only[go_sem,simprocAttr,xq,h1,h2,h3,h4,g2,g3,hj,hkx,List.length_map,List.length_set,List.getElem?_map,q9,List.map_set,List.getElem?_set_self,List.set_set]
theorem yn7(p:Pk)(a0 a1 a2 a3 a4 a5 a6 a7:List (Int×Int))(sb:Bool)(z:Nat)(st:List Int)(t:Nat)(c:Cz)(k:Nat)(j:Nat)(hj:c.c=(j:Int))(hjn:j<8)(x:List (Int×Int))(hx: [a0,a1,a2,a3,a4,a5,a6,a7][j]? =some x)(hk:k<c.l.length)(hkx:k<x.length)(hc:c.l.length<1000000)(hxl:x.length<1000000):
  xm p [a0,a1,a2,a3,a4,a5,a6,a7] sb z st t c k=xm p ([a0,a1,a2,a3,a4,a5,a6,a7].set j (x.set k (q9 x[k] c.l[k]))) sb z st t c (k+1):=by
 obtain⟨h1,h2,h3,h4,h5⟩:=ze hk (by omega);obtain⟨g1,g2,g3,g4,g5⟩:=ze hkx (by omega);have hs:∀v,(x.set k v)[k]? =some v:=fun v=>by rw[List.getElem?_set_self hkx]
 have hj':j=0∨j=1∨j=2∨j=3∨j=4∨j=5∨j=6∨j=7:=by omega
 conv=>lhs;unfold xm;rw[zq]
 unfold xm;rcases hj' with rfl|rfl|rfl|rfl|rfl|rfl|rfl|rfl
 all_goals
  obtain rfl:=Option.some.inj hx;simp only[u6,List.length_cons,List.length_nil,Nat.reduceAdd,List.range_succ,List.range_zero,List.nil_append,List.cons_append,List.map_cons,List.map_nil,List.map_append,List.set_cons_zero,List.set_cons_succ,xq,czV,hj];simp -implicitDefEqProofs only[go_sem,simprocAttr,xq,h1,h2,h3,h4,g2,g3,hj,hkx,List.length_map,List.length_set,List.getElem?_map,q9,List.map_set,List.getElem?_set_self,List.set_set]
theorem zfq{α:Type}{R:List α}(h:0<R.length)(h8:R.length≤8):(∃a0,R= [a0])∨(∃a0 a1,R= [a0,a1])∨(∃a0 a1 a2,R= [a0,a1,a2])∨(∃a0 a1 a2 a3,R= [a0,a1,a2,a3])∨(∃a0 a1 a2 a3 a4,R= [a0,a1,a2,a3,a4])∨(∃a0 a1 a2 a3 a4 a5,R= [a0,a1,a2,a3,a4,a5])∨(∃a0 a1 a2 a3 a4 a5 a6,R= [a0,a1,a2,a3,a4,a5,a6])∨(∃a0 a1 a2 a3 a4 a5 a6 a7,R= [a0,a1,a2,a3,a4,a5,a6,a7]):=by
 match R,h,h8 with
 | [a0],_,_=>exact .inl ⟨a0,rfl⟩
 | [a0,a1],_,_=>exact .inr (.inl ⟨a0,a1,rfl⟩)
 | [a0,a1,a2],_,_=>exact .inr (.inr (.inl ⟨a0,a1,a2,rfl⟩))
 | [a0,a1,a2,a3],_,_=>exact .inr (.inr (.inr (.inl ⟨a0,a1,a2,a3,rfl⟩)))
 | [a0,a1,a2,a3,a4],_,_=>exact .inr (.inr (.inr (.inr (.inl ⟨a0,a1,a2,a3,a4,rfl⟩))))
 | [a0,a1,a2,a3,a4,a5],_,_=>exact .inr (.inr (.inr (.inr (.inr (.inl ⟨a0,a1,a2,a3,a4,a5,rfl⟩)))))
 | [a0,a1,a2,a3,a4,a5,a6],_,_=>exact .inr (.inr (.inr (.inr (.inr (.inr (.inl ⟨a0,a1,a2,a3,a4,a5,a6,rfl⟩))))))
 | [a0,a1,a2,a3,a4,a5,a6,a7],_,_=>exact .inr (.inr (.inr (.inr (.inr (.inr (.inr ⟨a0,a1,a2,a3,a4,a5,a6,a7,rfl⟩))))))
 |_::_::_::_::_::_::_::_::_::_,_,h=>exact absurd h (by simp only[List.length_cons];omega)
theorem yof(p:Pk)(R:List (List (Int×Int)))(h0:0<R.length)(h8:R.length≤8)(sb:Bool)(z:Nat)(st:List Int)(t:Nat)(c:Cz)(k:Nat)(j:Nat)(hj:c.c=(j:Int))(hjn:j<R.length)(x:List (Int×Int))(hx:R[j]? =some x)(hk:k<c.l.length)(hkx:k<x.length)(hc:c.l.length<1000000)(hxl:x.length<1000000):
  xm p R sb z st t c k=xm p (R.set j (x.set k (q9 x[k] c.l[k]))) sb z st t c (k+1):=by
 rcases zfq h0 h8 with⟨a0,rfl⟩|⟨a0,a1,rfl⟩|⟨a0,a1,a2,rfl⟩|⟨a0,a1,a2,a3,rfl⟩|⟨a0,a1,a2,a3,a4,rfl⟩|⟨a0,a1,a2,a3,a4,a5,rfl⟩|⟨a0,a1,a2,a3,a4,a5,a6,rfl⟩|⟨a0,a1,a2,a3,a4,a5,a6,a7,rfl⟩
 ·exact yoe p a0 sb z st t c k j hj hjn x hx hk hkx hc hxl
 ·exact yod p a0 a1 sb z st t c k j hj hjn x hx hk hkx hc hxl
 ·exact yoc p a0 a1 a2 sb z st t c k j hj hjn x hx hk hkx hc hxl
 ·exact yob p a0 a1 a2 a3 sb z st t c k j hj hjn x hx hk hkx hc hxl
 ·exact yoa p a0 a1 a2 a3 a4 sb z st t c k j hj hjn x hx hk hkx hc hxl
 ·exact yn9 p a0 a1 a2 a3 a4 a5 sb z st t c k j hj hjn x hx hk hkx hc hxl
 ·exact yn8 p a0 a1 a2 a3 a4 a5 a6 sb z st t c k j hj hjn x hx hk hkx hc hxl
 ·exact yn7 p a0 a1 a2 a3 a4 a5 a6 a7 sb z st t c k j hj hjn x hx hk hkx hc hxl
def vd(x l:List (Int×Int)):List (Int×Int):=List.zipWith q9 x l
def part(x l:List (Int×Int))(k:Nat):List (Int×Int):=(vd x l).take k++x.drop k
theorem zf8{x l:List (Int×Int)}(h:x.length=l.length):(vd x l).length=l.length:=by simp[vd,h]
theorem yrq{x l:List (Int×Int)}(h:x.length=l.length)(k:Nat)(hk:k≤l.length):(part x l k).length=l.length:=by
 simp[part,zf8 h];omega
theorem yrr{x l:List (Int×Int)}(h:x.length=l.length)(k:Nat)(hk:k<l.length):(part x l k)[k]? =some (x[k]'(by omega)):=by
 unfold part;have:((vd x l).take k).length=k:=by simp[zf8 h];omega
 rw[List.getElem?_append_right (by omega),this,Nat.sub_self,List.getElem?_drop,Nat.add_zero,List.getElem?_eq_getElem (by omega)]
theorem yrp{x l:List (Int×Int)}(h:x.length=l.length)(k:Nat)(hk:k<l.length):(part x l k).set k (q9 (x[k]'(by omega)) l[k])=part x l (k+1):=by
 unfold part;have h1:((vd x l).take k).length=k:=by simp[zf8 h];omega
 rw[List.set_append_right _ _ (by omega),h1,Nat.sub_self,List.drop_eq_getElem_cons (show k<x.length by omega),List.set_cons_zero,List.take_succ_eq_append_getElem (by rw[zf8 h];exact hk),List.append_assoc];congr 1;simp[vd]
theorem yu9(p:Pk)(R:List (List (Int×Int)))(h0:0<R.length)(h8:R.length≤8)(sb:Bool)(z:Nat)(st:List Int)(t:Nat)(c:Cz)(j:Nat)(hj:c.c=(j:Int))(hjn:j<R.length)(x:List (Int×Int))(hxl:x.length=c.l.length)(hc:c.l.length<1000000):∀k,k≤c.l.length→
  xm p (R.set j (part x c.l k)) sb z st t c k=xm p (R.set j (vd x c.l)) sb z st t c c.l.length:=by
 refine xh c.l.length ?_ fun k hk ih=> ?_
 ·have:part x c.l c.l.length=vd x c.l:=by
   unfold part;rw[List.take_of_length_le (by rw[zf8 hxl];exact Nat.le_refl _),List.drop_of_length_le (by omega),List.append_nil]
  rw[this]
 ·rw[←ih,←yrp hxl k hk]
  have hl:=yrq hxl k (by omega);have hg:=yrr hxl k hk;have hkk:k<(part x c.l k).length:=by omega
  have hg2:(part x c.l k)[k]=x[k]'(by omega):=by
   have:=hg;rw[List.getElem?_eq_getElem hkk]at this;exact Option.some.inj this
  rw[yof p (R.set j (part x c.l k)) (by simpa using h0) (by simpa using h8) sb z st t c k j hj (by simpa using hjn) (part x c.l k) (by rw[List.getElem?_set_self (by simpa using hjn)]) hk hkk hc (by omega),List.set_set,hg2]
def za7(p:Pk)(R:List (List (Int×Int)))(sb:Bool)(z:Nat)(st:List Int)(t:Nat):Option Out:=
 (zu T).loop false [.code (.loop zfx),.inBlock 0,.code (.seq zgz .ret)]
  ⟨97,64,0,[(2,.ptr 0 0 0),(5,.ref 1),(14,.sl sb z (st.map zx)),(15,.int .i64 st.length),(16,.int .i64 t)],
   .cells true true 76 [xq p]:: .cells false false 101 (u6 R.length)::R.map (fun l=> .cells false true 100 (l.map v9)),0,[]⟩
def u5(r:Bool×List (Int×Int)):V:= .sl r.1 2 (r.2.map v9)
attribute [go_sem] u5
def rvT(l:List (Int×Int)):Bool×List (Int×Int):=(true,l)
theorem yyn(p:Pk)(R:List (List (Int×Int)))(h0:0<R.length)(h8:R.length≤8)(sb:Bool)(z:Nat)(st:List Int)(t:Nat)(ht:t<1000000)(c:Cz):xm p R sb z st t c c.l.length=za7 p R sb z st (t+1):=by
 have h1:=xu c.l.length;have h4:IntKind.i64.wrap ((t:Int)+1)=((t+1:Nat):Int):=by rw[wrap64]<;>omega
 unfold xm za7;rw[zq];rcases zfq h0 h8 with⟨a0,rfl⟩|⟨a0,a1,rfl⟩|⟨a0,a1,a2,rfl⟩|⟨a0,a1,a2,a3,rfl⟩|⟨a0,a1,a2,a3,a4,rfl⟩|⟨a0,a1,a2,a3,a4,a5,rfl⟩|⟨a0,a1,a2,a3,a4,a5,a6,rfl⟩|⟨a0,a1,a2,a3,a4,a5,a6,a7,rfl⟩
 all_goals
  simp only[u6,List.length_cons,List.length_nil,Nat.reduceAdd,List.range_succ,List.range_zero,List.nil_append,List.cons_append,List.map_cons,List.map_nil,List.map_append,xq,czV];simp -implicitDefEqProofs only[go_sem,simprocAttr,h1,h4]
theorem yxl(p:Pk)(R:List (List (Int×Int)))(h0:0<R.length)(h8:R.length≤8)(sb:Bool)(st:List Int)(t:Nat)(ht:t<st.length)(hs:st.length<1000000)(c:Cz)(hd:decide (0≤st[t]∧st[t]<(p.c.length:Int))=true)(hc:p.c[st[t].toNat]? =some c):za7 p R sb 1 st t=xm p R sb 1 st t c 0:=by
 obtain⟨h1,h2,h3,h4,h5⟩:=ze ht (by omega)
 conv=>lhs;unfold za7;rw[zq]
 unfold xm;rw[show((0:Nat):Int)=0 from rfl];rcases zfq h0 h8 with⟨a0,rfl⟩|⟨a0,a1,rfl⟩|⟨a0,a1,a2,rfl⟩|⟨a0,a1,a2,a3,rfl⟩|⟨a0,a1,a2,a3,a4,rfl⟩|⟨a0,a1,a2,a3,a4,a5,rfl⟩|⟨a0,a1,a2,a3,a4,a5,a6,rfl⟩|⟨a0,a1,a2,a3,a4,a5,a6,a7,rfl⟩
 all_goals
  simp only[u6,List.length_cons,List.length_nil,Nat.reduceAdd,List.range_succ,List.range_zero,List.nil_append,List.cons_append,List.map_cons,List.map_nil,List.map_append,xq,czV];simp -implicitDefEqProofs only[go_sem,simprocAttr,h1,h2,h3,hd,hc]
theorem xbi(p:Pk)(R:List (List (Int×Int)))(h0:0<R.length)(h8:R.length≤8)(sb:Bool)(z:Nat)(st:List Int):za7 p R sb z st st.length=some (.ret (.sl true 1 ((R.map rvT).map u5)),[],0,[]):=by
 have h1:=xu st.length;unfold za7;rw[zq];rcases zfq h0 h8 with⟨a0,rfl⟩|⟨a0,a1,rfl⟩|⟨a0,a1,a2,rfl⟩|⟨a0,a1,a2,a3,rfl⟩|⟨a0,a1,a2,a3,a4,rfl⟩|⟨a0,a1,a2,a3,a4,a5,rfl⟩|⟨a0,a1,a2,a3,a4,a5,a6,rfl⟩|⟨a0,a1,a2,a3,a4,a5,a6,a7,rfl⟩
 all_goals
  simp only[u6,List.length_cons,List.length_nil,Nat.reduceAdd,List.range_succ,List.range_zero,List.nil_append,List.cons_append,List.map_cons,List.map_nil,List.map_append,xq,rvT];simp -implicitDefEqProofs only[go_sem,simprocAttr,h1]
def lsF:List (Nat×List (Int×Int))→List (List (Int×Int))→List (List (Int×Int))
 | [],R=>R
 |c::cs,R=>lsF cs (R.set c.1 (vd (R.getD c.1 []) c.2))
def lossF(i k:Nat):List (Nat×List (Int×Int))→Int×Int→Int×Int
 | [],x=>x
 |c::cs,x=>lossF i k cs (if c.1=i then q9 x (c.2.getD k (0,0))else x)
def tab{α:Type}(n s:Nat)(f:Nat→Nat→α):List (List α):=(List.range n).map fun i=>(List.range s).map fun k=>f i k
theorem yt8:∀(cs:List (Nat×List (Int×Int))) (R:List (List (Int×Int))),(lsF cs R).length=R.length:=by
 intro cs
 induction cs with
 |nil=>intro R;rfl
 |cons c cs ih=>intro R;simp only[lsF];rw[ih,List.length_set]
theorem zpm{R:List (List (Int×Int))}{s j:Nat}{l:List (Int×Int)}(hR:∀x∈R,x.length=s)(hj:j<R.length)(hl:l.length=s):∀x∈R.set j (vd (R.getD j []) l),x.length=s:=by
 intro x hx
 have hm:(R.getD j [])∈R:=by
  rw[List.getD_eq_getElem?_getD,List.getElem?_eq_getElem hj];exact List.getElem_mem hj
 rcases List.mem_or_eq_of_mem_set hx with h|h
 ·exact hR x h
 ·rw[h];unfold vd;rw[List.length_zipWith,hR _ hm,hl,Nat.min_self]
theorem tab_self{R:List (List (Int×Int))}{s:Nat}(hR:∀x∈R,x.length=s):R=tab R.length s fun i k=>(R.getD i []).getD k (0,0):=by
 unfold tab;apply List.ext_getElem
 ·simp
 ·intro i h1 h2
  have hs:=hR _ (List.getElem_mem h1);simp only[List.getElem_map,List.getElem_range];apply List.ext_getElem
  ·simp[hs]
  ·intro k h3 h4
   simp[List.getD_eq_getElem?_getD,List.getElem?_eq_getElem h1,List.getElem?_eq_getElem h3]
theorem yt7(s:Nat):∀(cs:List (Nat×List (Int×Int))) (R:List (List (Int×Int))),(∀x∈R,x.length=s)→(∀c∈cs,c.1<R.length∧c.2.length=s)→
  lsF cs R=tab R.length s fun i k=>lossF i k cs ((R.getD i []).getD k (0,0)):=by
 intro cs
 induction cs with
 |nil=>intro R hR _;exact tab_self hR
 |cons c cs ih=>
  intro R hR hc;obtain⟨c1,c2⟩:=hc c (by simp);simp only[lsF];rw[ih _ (zpm hR c1 c2) (fun d hd=>by rw[List.length_set];exact hc d (by simp[hd])),List.length_set];unfold tab;apply List.map_congr_left;intro i hi;rw[List.mem_range]at hi;apply List.map_congr_left;intro k hk;rw[List.mem_range]at hk;simp only[lossF];congr 1;by_cases h:c.1=i
  ·subst h
   have e1:(R.set c.1 (vd (R.getD c.1 []) c.2)).getD c.1 []=vd (R.getD c.1 []) c.2:=by
    rw[List.getD_eq_getElem?_getD,List.getElem?_set_self hi];rfl
   rw[e1,if_pos rfl];have e2:(R.getD c.1 []).length=s:=hR _ (by rw[List.getD_eq_getElem?_getD,List.getElem?_eq_getElem hi];exact List.getElem_mem hi);generalize R.getD c.1 []=y at e2⊢;unfold vd;simp only[List.getD_eq_getElem?_getD,List.getElem?_zipWith];have q1:y[k]? =some (y[k]'(by omega)):=List.getElem?_eq_getElem _;have q2:c.2[k]? =some (c.2[k]'(by omega)):=List.getElem?_eq_getElem _;rw[q1,q2];rfl
  ·have e1:(R.set c.1 (vd (R.getD c.1 []) c.2)).getD i []=R.getD i []:=by
    rw[List.getD_eq_getElem?_getD,List.getElem?_set_ne h,←List.getD_eq_getElem?_getD]
   rw[e1,if_neg h]
def bdB(nz n:Int)(x:Int×Int):Bool:=decide (n<Go.IntKind.i64.wrap (x.1- nz))||decide (Go.IntKind.i64.wrap (x.2+nz)<n)
def rowP(nz:Int)(i:Nat):Nat→List Int→List (Int×Int)→List (Int×Int)
 |k,n::r,x::l=>bif bdB nz n x then((i:Int),(k:Int))::rowP nz i (k+1) r l else rowP nz i (k+1) r l
 |_,_,_=> []
def allP(nz:Int):Nat→List (List Int)→List (List (Int×Int))→List (Int×Int)
 |i,r::R,l::L=>rowP nz i 0 r l++allP nz (i+1) R L
 |_,_,_=> []
theorem yph(nz:Int)(i:Nat):∀(r:List Int) (k:Nat) (l:List (Int×Int)),(rowP nz i k r l).length≤r.length:=by
 intro r
 induction r with
 |nil=>intro k l;simp[rowP]
 |cons n r ih=>
  intro k l;cases l with
  |nil=>simp[rowP]
  |cons x l=>
   simp only[rowP];cases bdB nz n x
   ·simp;exact Nat.le_succ_of_le (ih _ _)
   ·simp;exact ih _ _
theorem xfv(nz:Int)(s:Nat):∀(R:List (List Int)) (i:Nat) (L:List (List (Int×Int))),(∀r∈R,r.length≤s)→(allP nz i R L).length≤R.length*s:=by
 intro R
 induction R with
 |nil=>intro i L h;simp[allP]
 |cons r R ih=>
  intro i L h;cases L with
  |nil=>simp[allP]
  |cons l L=>
   simp only[allP,List.length_append,List.length_cons];have h1:=yph nz i r 0 l;have h2:=h r (by simp);have h3:=ih (i+1) L (fun x hx=>h x (by simp[hx]));rw[Nat.add_mul];omega
def cPr(c:Cz):Nat×List (Int×Int):=(c.c.toNat,c.l)
def ua(p:Pk)(i:Int):Cz:=(p.c[i.toNat]?).getD ⟨[],0,false,[]⟩
def csq(p:Pk)(st:List Int):List (Nat×List (Int×Int)):=st.map fun i=>cPr (ua p i)
def ls0(p:Pk):List (List (Int×Int)):=p.v.map fun r=>z0 r.2.length
def lss(p:Pk)(st:List Int):List (List (Int×Int)):=lsF (csq p st) (ls0 p)
abbrev gx(p:Pk)(st:List Int):Prop:=∀i∈st,0≤i∧i<(p.c.length:Int)
theorem yko{p:Pk}(ho:Ok p){i:Int}(h:0≤i∧i<(p.c.length:Int)):p.c[i.toNat]? =some (ua p i)∧0≤(ua p i).c∧(ua p i).c<p.v.length∧(ua p i).l.length=xa p:=by
 have hlt:i.toNat<p.c.length:=by omega
 have hg:p.c[i.toNat]? =some p.c[i.toNat]:=List.getElem?_eq_getElem hlt;have hc:ua p i=p.c[i.toNat]:=by unfold ua;rw[hg];rfl
 rw[hc];exact⟨hg,ho.ca _ (List.getElem_mem hlt)⟩
theorem yrs(x l:List (Int×Int)):part x l 0=x:=by simp[part]
theorem yva(p:Pk)(ho:Ok p)(sb:Bool)(z:Nat)(st:List Int)(hs:st.length<1000000)(hv:gx p st)(hz:st≠ []→z=1):∀t,t≤st.length→∀R,R.length=p.v.length→(∀x∈R,x.length=xa p)→
  za7 p R sb z st t=za7 p (lsF (csq p (st.drop t)) R) sb z st st.length:=by
 refine xh st.length ?_ fun t ht ih=> ?_
 ·intro R _ _
  rw[List.drop_of_length_le (Nat.le_refl _)];rfl
 ·intro R hR hx
  obtain⟨h1,h2,h3,h4,h5⟩:=ze ht (by omega);have hz1:=hz (fun e=>by rw[e]at ht;cases ht);subst hz1;have hi:=hv _ (List.getElem_mem ht);obtain⟨hg,k1,k2,k3⟩:=yko ho hi;have v1:=ho.v1;have v8:=ho.v8;have s8:=ho.s8;have r0:0<R.length:=by omega
  have r8:R.length≤8:=by omega
  have hjR:(ua p st[t]).c.toNat<R.length:=by omega
  have hxj:=hx _ (List.getElem_mem hjR);have e:=yu9 p R r0 r8 sb 1 st t (ua p st[t]) (ua p st[t]).c.toNat (by omega) hjR R[(ua p st[t]).c.toNat] (by rw[hxj,k3]) (by omega) 0 (by omega);rw[yrs,List.set_getElem_self]at e;rw[yxl p R r0 r8 sb st t ht hs _ (decide_eq_true hi) hg,e,yyn p _ (by rw[List.length_set];exact r0) (by rw[List.length_set];exact r8) sb 1 st t (by omega) _];have hgd:R.getD (ua p st[t]).c.toNat []=R[(ua p st[t]).c.toNat]:=by rw[List.getD_eq_getElem?_getD,List.getElem?_eq_getElem hjR];rfl
  have hs2:=zpm (l:=(ua p st[t]).l) hx hjR k3;rw[hgd]at hs2;rw[ih _ (by rw[List.length_set];exact hR) hs2,h5];simp only[csq,List.map_cons,lsF,cPr,hgd]
theorem zhq(p:Pk):(ls0 p).length=p.v.length:=by simp[ls0]
theorem yib{p:Pk}(ho:Ok p):∀x∈ls0 p,x.length=xa p:=by
 intro x hx;obtain⟨r,hr,rfl⟩:=List.mem_map.1 hx;simp[z0,ho.row r hr]
theorem yh9(p:Pk)(st:List Int):(lss p st).length=p.v.length:=by unfold lss;rw[yt8,zhq]
theorem xer(p:Pk)(ho:Ok p)(sb:Bool)(z:Nat)(st:List Int)(hs:st.length<1000000)(hv:gx p st)(hz:st≠ []→z=1):(zu T).call 97 [xq p,.sl sb z (st.map zx)] [] 0 []=some (.sl true 1 (((lss p st).map rvT).map u5),[],0,[]):=by
 have v1:=ho.v1;have v8:=ho.v8;have s8:=ho.s8;have hrow:∀r∈p.v,r.2.length<1000:=fun r hr=>by rw[ho.row r hr];omega
 have h:=yva p ho sb z st hs hv hz 0 (by omega) (ls0 p) (zhq p) (yib ho);rw[List.drop_zero]at h;have hE:=xbi p (lss p st) (by rw[yh9];exact v1) (by rw[yh9];exact v8) sb z st;rw[show lsF (csq p st) (ls0 p)=lss p st from rfl,hE]at h;clear hE hv;generalize hL:V.sl true 1 (((lss p st).map rvT).map u5)=res at h⊢;clear hL;unfold za7 ls0 at h;clear ho;obtain⟨vb,v,n,cb,c⟩:=p;simp only at v1 v8 hrow h;rw[yze];rcases zfq v1 v8 with⟨a0,rfl⟩|⟨a0,a1,rfl⟩|⟨a0,a1,a2,rfl⟩|⟨a0,a1,a2,a3,rfl⟩|⟨a0,a1,a2,a3,a4,rfl⟩|⟨a0,a1,a2,a3,a4,a5,rfl⟩|⟨a0,a1,a2,a3,a4,a5,a6,rfl⟩|⟨a0,a1,a2,a3,a4,a5,a6,a7,rfl⟩
 all_goals simp only[u6,List.length_cons,List.length_nil,Nat.reduceAdd,List.range_succ,List.range_zero,List.nil_append,List.cons_append,List.map_cons,List.map_nil,List.map_append,xq,rwV,show((0:Nat):Int)=0 from rfl]at h
 ·simp -implicitDefEqProofs only[go_sem,simprocAttr,xq,xe1 vb a0 (hrow a0 (by simp)),h]
 ·simp -implicitDefEqProofs only[go_sem,simprocAttr,xq,xe0 vb a0 a1 (hrow a0 (by simp)) (hrow a1 (by simp)),h]
 ·simp -implicitDefEqProofs only[go_sem,simprocAttr,xq,xez vb a0 a1 a2 (hrow a0 (by simp)) (hrow a1 (by simp)) (hrow a2 (by simp)),h]
 ·simp -implicitDefEqProofs only[go_sem,simprocAttr,xq,xey vb a0 a1 a2 a3 (hrow a0 (by simp)) (hrow a1 (by simp)) (hrow a2 (by simp)) (hrow a3 (by simp)),h]
 ·simp -implicitDefEqProofs only[go_sem,simprocAttr,xq,xex vb a0 a1 a2 a3 a4 (hrow a0 (by simp)) (hrow a1 (by simp)) (hrow a2 (by simp)) (hrow a3 (by simp)) (hrow a4 (by simp)),h]
 ·simp -implicitDefEqProofs only[go_sem,simprocAttr,xq,xew vb a0 a1 a2 a3 a4 a5 (hrow a0 (by simp)) (hrow a1 (by simp)) (hrow a2 (by simp)) (hrow a3 (by simp)) (hrow a4 (by simp)) (hrow a5 (by simp)),h]
 ·simp -implicitDefEqProofs only[go_sem,simprocAttr,xq,xev vb a0 a1 a2 a3 a4 a5 a6 (hrow a0 (by simp)) (hrow a1 (by simp)) (hrow a2 (by simp)) (hrow a3 (by simp)) (hrow a4 (by simp)) (hrow a5 (by simp)) (hrow a6 (by simp)),h]
 ·simp -implicitDefEqProofs only[go_sem,simprocAttr,xq,xeu vb a0 a1 a2 a3 a4 a5 a6 a7 (hrow a0 (by simp)) (hrow a1 (by simp)) (hrow a2 (by simp)) (hrow a3 (by simp)) (hrow a4 (by simp)) (hrow a5 (by simp)) (hrow a6 (by simp)) (hrow a7 (by simp)),h]
theorem yub(i k:Nat)(c:Nat×List (Int×Int))(cs:List (Nat×List (Int×Int)))(x:Int×Int):lossF i k (c::cs) x=lossF i k cs (if c.1=i then q9 x (c.2.getD k (0,0))else x):=rfl
def lsA(p:Pk)(st:List Int)(i k:Nat):Int×Int:=lossF i k (csq p st) (0,0)
def lsR(p:Pk)(st:List Int)(i:Nat):List (Int×Int):=(List.range (xa p)).map (lsA p st i)
theorem yt6(p:Pk)(st:List Int)(i:Nat):(lsR p st i).length=xa p:=by simp[lsR]
theorem yom{p:Pk}(ho:Ok p):∃r0,p.v[0]? =some r0∧r0.2.length=xa p∧decide (0<(p.v.length:Int))=true:=by
 obtain⟨r0,h1,h2,h3⟩:=zpj ho;exact⟨r0,h1,by rw[h2,zex],h3⟩
def ub(p:Pk)(st:List Int):List (List (Int×Int)):=(List.range p.v.length).map (lsR p st)
theorem yt5(p:Pk)(ho:Ok p)(st:List Int)(hv:gx p st):lss p st=ub p st:=by
 unfold lss
 rw[yt7 (xa p) (csq p st) (ls0 p) (yib ho) (fun c hc=>by
  obtain⟨i,hi,rfl⟩:=List.mem_map.1 hc;obtain⟨hg,k1,k2,k3⟩:=yko ho (hv i hi);exact⟨by rw[zhq];simp only[cPr];omega,k3⟩),zhq]
 unfold tab ub lsR;apply List.map_congr_left;intro i hi;rw[List.mem_range]at hi;apply List.map_congr_left;intro k hk;rw[List.mem_range]at hk;unfold lsA;congr 1;have hr:=ho.row _ (List.getElem_mem hi);simp[ls0,z0,List.getD_eq_getElem?_getD,List.getElem?_eq_getElem hi,List.getElem?_replicate,hr,hk]
theorem zbk(a b:Int):decide (a>b)=decide (b<a):=rfl
theorem yt4{p:Pk}(st:List Int):∀l∈(ub p st).map rvT,l.2.length=xa p:=by
 intro l hl;obtain⟨x,hx,rfl⟩:=List.mem_map.1 hl;obtain⟨i,hi,rfl⟩:=List.mem_map.1 hx;exact yt6 p st i
def zee(p:Pk)(rb lb:Bool)(R:List (Bool×List Int))(L:List (Bool×List (Int×Int)))(d:Nat)(S:xt)(i:Nat):Option Out:=
 (zu T).loop false [.code (.loop zfw),.inBlock 0]
  ⟨98,57,0,[(0,.yld d),(2,.pp 1 [.sl lb 1 (L.map u5)] 0 0),(3,.pp 3 [xq p] 0 0),(10,.sl rb 1 (R.map rwV)),(11,.int .i64 R.length),(12,.int .i64 i)],[],0,S⟩
def k5(p:Pk)(rb lb:Bool)(R:List (Bool×List Int))(L:List (Bool×List (Int×Int)))(d:Nat)(S:xt)(i:Nat)(r:Bool×List Int)(k:Nat):Option Out:=
 (zu T).loop false [.code (.loop ziw),.inBlock 2,.inBlock 1,.code zk7,.inLoop zfw,.inBlock 0]
  ⟨98,57,0,[(0,.yld d),(2,.pp 1 [.sl lb 1 (L.map u5)] 0 0),(3,.pp 3 [xq p] 0 0),(5,.int .i64 i),(10,.sl rb 1 (R.map rwV)),(11,.int .i64 R.length),(12,.int .i64 i),(17,.sl r.1 1 (r.2.map zx)),(18,.int .i64 r.2.length),(19,.int .i64 k)],[],0,S⟩
theorem yuw(p:Pk)(rb lb:Bool)(R:List (Bool×List Int))(L:List (Bool×List (Int×Int)))(d:Nat)(i:Nat)(hi:i<R.length)(hR:R.length≤8)(hL:L.length=R.length)(r:Bool×List Int)(hr:R[i]? =some r)(l:Bool×List (Int×Int))(hl:L[i]? =some l)(hrl:r.2.length=l.2.length)(hr8:r.2.length≤8)
  (rest:List V)(hrest:∀S S' b,qf T d rest S=some (b,S')→zee p rb lb R L d S (i+1)=some (.ret (.tup []),[],0,S')):
  ∀k,k≤r.2.length→∀S S' b,qf T d ((rowP p.n i k (r.2.drop k) (l.2.drop k)).map jb++rest) S=some (b,S')→k5 p rb lb R L d S i r k=some (.ret (.tup []),[],0,S'):=by
 refine xh r.2.length ?_ fun k hk ih=> ?_
 ·intro S S' b h
  rw[List.drop_of_length_le (Nat.le_refl _),show rowP p.n i r.2.length [] (l.2.drop r.2.length)= []from by unfold rowP;rfl,List.map_nil,List.nil_append]at h;rw[←hrest _ _ _ h];obtain⟨q1,q2,q3,q4,q5⟩:=ze hi (by omega);have hE:=xu r.2.length
  conv=>lhs;unfold k5;rw[zq]
  unfold zee;simp -implicitDefEqProofs only[go_sem,simprocAttr,xq,hE,q4]
 ·intro S S' b h
  obtain⟨h1,h2,h3,h4,h5⟩:=ze hk (by omega);obtain⟨g1,g2,g3,g4,g5⟩:=ze (l:=l.2) (i:=k) (by omega) (by omega);obtain⟨q1,q2,q3,q4,q5⟩:=ze hi (by omega);obtain⟨m1,m2,m3,m4,m5⟩:=ze (l:=L) (i:=i) (by omega) (by omega);rw[h5,g5]at h;simp only[rowP,bdB]at h;generalize r.2[k]=n at h3 h;generalize l.2[k]'(by omega)=x at g3 h;cases hA:decide (n<IntKind.i64.wrap (x.1- p.n))
  ·cases hB:decide (IntKind.i64.wrap (x.2+p.n)<n)
   ·simp only[hA,hB,Bool.or_false,cond_false]at h
    rw[←ih _ _ _ h]
    conv=>lhs;unfold k5;rw[zq]
    unfold k5;simp -implicitDefEqProofs only[go_sem,simprocAttr,xq,u5,h1,h2,h3,h4,g2,g3,m2,hl,hA,hB,zbk]
   ·simp only[hA,hB,Bool.or_true,cond_true,List.map_cons,List.cons_append,qf,jb]at h
    cases hy:(zu T).yld d [.agg [.int .i64 i,.int .i64 k]] S with
    |none=>rw[hy]at h;cases h
    |some w=>
     obtain⟨c,S1⟩:=w;rw[hy]at h;cases c
     ·simp only[Option.some.injEq,Prod.mk.injEq]at h
      obtain⟨_,rfl⟩:=h;unfold k5;rw[zq];simp -implicitDefEqProofs only[go_sem,simprocAttr,xq,u5,h1,h2,h3,h4,g2,g3,m2,hl,hA,hB,zbk,hy]
     ·rw[←ih _ _ _ h]
      conv=>lhs;unfold k5;rw[zq]
      unfold k5;simp -implicitDefEqProofs only[go_sem,simprocAttr,xq,u5,h1,h2,h3,h4,g2,g3,m2,hl,hA,hB,zbk,hy]
  ·simp only[hA,Bool.true_or,cond_true,List.map_cons,List.cons_append,qf,jb]at h
   cases hy:(zu T).yld d [.agg [.int .i64 i,.int .i64 k]] S with
   |none=>rw[hy]at h;cases h
   |some w=>
    obtain⟨c,S1⟩:=w;rw[hy]at h;cases c
    ·simp only[Option.some.injEq,Prod.mk.injEq]at h
     obtain⟨_,rfl⟩:=h;unfold k5;rw[zq];simp -implicitDefEqProofs only[go_sem,simprocAttr,xq,u5,h1,h2,h3,h4,g2,g3,m2,hl,hA,zbk,hy]
    ·rw[←ih _ _ _ h]
     conv=>lhs;unfold k5;rw[zq]
     unfold k5;simp -implicitDefEqProofs only[go_sem,simprocAttr,xq,u5,h1,h2,h3,h4,g2,g3,m2,hl,hA,zbk,hy]
theorem yux(p:Pk)(rb lb:Bool)(R:List (Bool×List Int))(L:List (Bool×List (Int×Int)))(d:Nat)(hR:R.length≤8)(hL:L.length=R.length)(s:Nat)(hs:s≤8)(hr:∀r∈R,r.2.length=s)(hl:∀l∈L,l.2.length=s):
  ∀i,i≤R.length→∀S S' b,qf T d ((allP p.n i ((R.map (·.2)).drop i) ((L.map (·.2)).drop i)).map jb) S=some (b,S')→zee p rb lb R L d S i=some (.ret (.tup []),[],0,S'):=by
 refine xh R.length ?_ fun i hi ih=> ?_
 ·intro S S' b h
  rw[List.drop_of_length_le (by simp),show allP p.n R.length [] ((L.map (·.2)).drop R.length)= []from by unfold allP;rfl,List.map_nil]at h;simp only[qf,Option.some.injEq,Prod.mk.injEq]at h;obtain⟨_,rfl⟩:=h;unfold zee;rw[zq];have h1:=xu R.length;simp -implicitDefEqProofs only[go_sem,simprocAttr,xq,h1]
 ·intro S S' b h
  obtain⟨h1,h2,h3,h4,h5⟩:=ze hi (by omega);have r1:=hr _ (List.getElem_mem hi);have l1:=hl _ (List.getElem_mem (show i<L.length by omega));have e1:(R.map (·.2)).drop i=R[i].2::(R.map (·.2)).drop (i+1):=by rw[List.drop_eq_getElem_cons (by simpa using hi)];simp
  have e2:(L.map (·.2)).drop i=(L[i]'(by omega)).2::(L.map (·.2)).drop (i+1):=by rw[List.drop_eq_getElem_cons (by simp;omega)];simp
  rw[e1,e2]at h;simp only[allP,List.map_append]at h;rw[←yuw p rb lb R L d i hi hR hL R[i] h3 (L[i]'(by omega)) (List.getElem?_eq_getElem (by omega)) (by rw[r1,l1]) (by omega) _ (fun S S' b h=>ih S S' b h) 0 (by omega) S S' b (by rw[List.drop_zero,List.drop_zero];exact h)]
  conv=>lhs;unfold zee;rw[zq]
  unfold k5;rw[show((0:Nat):Int)=0 from rfl];simp -implicitDefEqProofs only[go_sem,simprocAttr,xq,rwV,h1,h2,h3]
theorem xea(p:Pk)(rb lb:Bool)(R:List (Bool×List Int))(L:List (Bool×List (Int×Int)))(d:Nat)(hR:R.length≤8)(hL:L.length=R.length)(s:Nat)(hs:s≤8)(hr:∀r∈R,r.2.length=s)(hl:∀l∈L,l.2.length=s)(S S':xt)(b:Bool)
  (h:qf T d ((allP p.n 0 (R.map (·.2)) (L.map (·.2))).map jb) S=some (b,S')):
  (zu T).call 98 [.yld d,.pp 1 [.sl rb 1 (R.map rwV)] 0 0,.pp 1 [.sl lb 1 (L.map u5)] 0 0,.pp 3 [xq p] 0 0] [] 0 S=some (.tup [],[],0,S'):=by
 rw[yzd];have e:=yux p rb lb R L d hR hL s hs hr hl 0 (by omega) S S' b (by rw[List.drop_zero,List.drop_zero];exact h);unfold zee at e;simp only[show((0:Nat):Int)=0 from rfl,xq]at e;simp -implicitDefEqProofs only[go_sem,simprocAttr,xq,e]
theorem ziu(p:Pk)(ho:Ok p)(sb:Bool)(z:Nat)(st:List Int)(hs:st.length<1000000)(hv:gx p st)(hz:st≠ []→z=1):(zu T).call 46 [xq p,.sl sb z (st.map zx)] [] 0 []=
  some (.fn 98 [.pp 1 [.sl (!((jv p).map rwV).isEmpty) 1 ((jv p).map rwV)] 0 0,.pp 1 [.sl true 1 (((ub p st).map rvT).map u5)] 0 0,.pp 3 [xq p] 0 0],[],0,[]):=by
 rw[xac];have e1:=yk5 p ho;have e2:=xer p ho sb z st hs hv hz;rw[yt5 p ho st hv]at e2;simp only[xq]at e1 e2;simp -implicitDefEqProofs only[go_sem,simprocAttr,xq,e1,e2]
theorem gA{B L:zw}{N:Nat}(h:B.length=N):(B++L)[N]? =L[0]? :=by subst h;rw[List.getElem?_append_right (Nat.le_refl _),Nat.sub_self]
theorem fk{B L:zw}{N:Nat}(h:B.length=N):(B++L)[N+1]? =L[1]? :=by subst h;rw[List.getElem?_append_right (by omega)];congr 1;omega
theorem sA{B L:zw}{N:Nat}{r:Row}(h:B.length=N):(B++L).set N r=B++L.set 0 r:=by subst h;rw[List.set_append_right _ _ (Nat.le_refl _),Nat.sub_self]
theorem ypr(env:Den.Env)(he:xy env 2= .ptr 0 0 0)(H:zw)(m:Nat)(l:List (Int×Int))(x:Int×Int)(S:xt)(fl:Bool)(h0:H[0]? =some (.cells true fl 34 [.ref m]))(hm:H[m]? =some (.cells false true 31 (l.map jb)))(hm0:0<m)(hll:l.length<1000)(N:Nat)(hN:H.length=N)(hmN:m<N):
  runK (zu T) T true ql [.code zcv,.beginRound,.code zcr] ⟨101,13,N,(7,jb x)::env,H,0,S⟩=
   some (.round none,(H.set m .dead).set 0 (.cells true false 34 [.ref (N+2)])++ [.cells true true 31 [jb x],.cells false true 31 [jb x],.cells false true 31 ((l++ [x]).map jb)],0,S):=by
 have h8:=(xf (n:=l.length) (by omega)).1;have n0:0<N:=by omega
 have d1:decide (N<N+1)=true:=by simp
 have d2:decide (m<N+2)=true:=decide_eq_true (by omega);have d3:decide (0<N+3)=true:=by simp
 have hd0:(H.set m .dead)[0]? =some (.cells true fl 34 [.ref m]):=by rw[List.getElem?_set_ne (by omega),h0]
 simp only[List.map_append,List.map_cons,List.map_nil];simp -implicitDefEqProofs only[go_sem,simprocAttr,he,h0,hm,hd0,hN,n0,hmN,gA,fk,sA,List.getElem?_append_left,List.set_append_left,List.append_assoc,List.length_set,h8,d1,d2,d3,Nat.zero_shiftRight,Nat.and_zero,Nat.zero_or]
theorem yx0(env:Den.Env)(he:xy env 2= .ptr 0 0 0)(x:Int×Int)(S:xt):
  runK (zu T) T true ql [.code zcv,.beginRound,.code zcr] ⟨101,13,1,(7,jb x)::env,[.cells true true 34 [.sl false 0 []]],0,S⟩=
   some (.round none,[.cells true false 34 [.ref 3],.cells true true 31 [jb x],.cells false true 31 [jb x],.cells false true 31 [jb x]],0,S):=by
 have h8:=(xf (n:=0) (by omega)).2;simp -implicitDefEqProofs only[go_sem,simprocAttr,he,h8]
def zag(caps:List V):Den.Env:= [(6,.fn 98 caps),(4,.sl false 0 []),(2,.ptr 0 0 0),(0,.sl false 0 []),(1,.fn 98 caps)]
theorem yjo(caps:List V):xy (zag caps) 2= .ptr 0 0 0:=rfl
def yy(caps:List V)(H:zw):Own:=⟨101,13,zag caps,H,0,[7],zcv,zcr,false,none,0⟩
def zgh(H:zw)(l:List (Int×Int)):Prop:=∃m fl,H[0]? =some (.cells true fl 34 [.ref m])∧H[m]? =some (.cells false true 31 (l.map jb))∧0<m∧m<H.length
theorem ypn(caps:List V)(S:xt):∀(xs:List (Int×Int)) (H:zw) (l:List (Int×Int)),zgh H l→l.length+xs.length<1000→
  ∃H',zgh H' (l++xs)∧qf T S.length (xs.map jb) (S++ [yy caps H])=some (true,S++ [yy caps H']):=by
 intro xs
 induction xs with
 |nil=>intro H l hI _;exact⟨H,by rw[List.append_nil];exact hI,rfl⟩
 |cons x xs ih=>
  intro H l hI hl;obtain⟨m,fl,i1,i2,i3,i4⟩:=hI;simp only[List.length_cons]at hl;have hr:=ypr (zag caps) (yjo caps) H m l x S fl i1 i2 i3 (by omega) H.length rfl i4;have hy:=zba (S:=S) (own:=yy caps H) (by kernel_rfl) rfl (args:= [jb x]) rfl hr
  have hI2:zgh ((H.set m .dead).set 0 (.cells true false 34 [.ref (H.length+2)])++ [.cells true true 31 [jb x],.cells false true 31 [jb x],.cells false true 31 ((l++ [x]).map jb)]) (l++ [x]):=by
   refine⟨H.length+2,false,?_,?_,by omega,by simp⟩
   ·rw[List.getElem?_append_left (by simp;omega),List.getElem?_set_self (by simp;omega)]
   ·rw[List.getElem?_append_right (by simp)]
    simp
  obtain⟨H',j1,j2⟩:=ih _ _ hI2 (by simp;omega);refine⟨H',by rw[List.append_assoc]at j1;exact j1,?_⟩;simp only[List.map_cons,qf];rw[hy];exact j2
theorem xfw(caps:List V)(S:xt)(x:Int×Int)(xs:List (Int×Int))(hx:xs.length<900):
  ∃H',zgh H' (x::xs)∧qf T S.length ((x::xs).map jb) (S++ [yy caps [.cells true true 34 [.sl false 0 []]]])=some (true,S++ [yy caps H']):=by
 have hr:=yx0 (zag caps) (yjo caps) x S;have hy:=zba (S:=S) (own:=yy caps [.cells true true 34 [.sl false 0 []]]) (by kernel_rfl) rfl (args:= [jb x]) rfl hr;have hI:zgh [.cells true false 34 [.ref 3],.cells true true 31 [jb x],.cells false true 31 [jb x],.cells false true 31 [jb x]] [x]:=⟨3,false,rfl,rfl,by omega,by simp⟩;obtain⟨H',j1,j2⟩:=ypn caps S xs _ _ hI (by simp;omega);refine⟨H',j1,?_⟩;simp only[List.map_cons,qf];rw[hy];exact j2
abbrev zcz(caps:List V)(xs:List (Int×Int)):Prop:=∀S S' b,qf T 0 (xs.map jb) S=some (b,S')→(zu T).call 98 (.yld 0::caps) [] 0 S=some (.tup [],[],0,S')
theorem xeb(caps:List V)(hc:zt caps= [])(hy:xj caps=false)(xs:List (Int×Int))(hx:xs.length<900)(hcall:zcz caps xs):(zu T).call 101 [.sl false 0 [],.fn 98 caps] [] 0 []=some (k7 2 (xs.map jb),[],0,[]):=by
 rw[xbg];simp -implicitDefEqProofs only[go_sem,simprocAttr,hc];cases xs with
 |nil=>
  have e:(zu T).call 98 (.yld (List.length ([]:xt))::caps) [] 0 ([]++ [⟨101,13,zag caps,[.cells true true 34 [.sl false 0 []]],0,(#[7]:Array Nat).toList,zcv,zcr,false,none,0⟩])=some (.tup [],[],0,[]++ [yy caps [.cells true true 34 [.sl false 0 []]]]):=hcall _ _ _ rfl;unfold zag at e;rw[zbf (f:= .tmp 6) (g:=98) (caps:=caps) (S:= []) (ps:= #[7]) rfl hc hy zaf.1 zaf.2.1 zel rfl (own':=yy caps [.cells true true 34 [.sl false 0 []]]) e];simp only[yy,zag];simp -implicitDefEqProofs only[go_sem,simprocAttr];rfl
 |cons x xs=>
  obtain⟨H',⟨m,fl,i1,i2,i3,i4⟩,j2⟩:=xfw caps [] x xs (by simp at hx;omega);have e:(zu T).call 98 (.yld (List.length ([]:xt))::caps) [] 0 ([]++ [⟨101,13,zag caps,[.cells true true 34 [.sl false 0 []]],0,(#[7]:Array Nat).toList,zcv,zcr,false,none,0⟩])=some (.tup [],[],0,[]++ [yy caps H']):=hcall _ _ _ j2;unfold zag at e;rw[zbf (f:= .tmp 6) (g:=98) (caps:=caps) (S:= []) (ps:= #[7]) rfl hc hy zaf.1 zaf.2.1 zel rfl (own':=yy caps H') e];simp only[yy,zag];simp -implicitDefEqProofs only[go_sem,simprocAttr,i1,i2];rfl
theorem yk2(caps:List V)(hc:zt caps= [])(hy:xj caps=false)(xs:List (Int×Int))(hx:xs.length<900)(hcall:zcz caps xs):(zu T).call 53 [.fn 98 caps] [] 0 []=some (.sl (!(xs.map jb).isEmpty) 2 (xs.map jb),[],0,[]):=by
 rw[yz5];have e:=xeb caps hc hy xs hx hcall;simp -implicitDefEqProofs only[go_sem,simprocAttr,hc,hy,e]
def yi(p:Pk)(sb:Bool)(z:Nat)(st:List Int)(caps:List V):Den.Env:= [(7,.fn 98 caps),(6,.sl sb z (st.map zx)),(5,xq p),(4,.ptr 1 0 0),(2,.ptr 0 0 0),(0,xq p),(1,.sl sb z (st.map zx))]
def we(p:Pk):zw:= [.cells true true 76 [xq p],.cells true true 4 [.bool false]]
theorem yx1(p:Pk)(env:Den.Env)(he:xy env 4= .ptr 1 0 0)(x:Int×Int)(S:xt):
  runK (zu T) T true ql [.code ki,.beginRound,.code kz] ⟨110,9,2,(8,jb x)::env,we p,0,S⟩=some (.round (some .ret),we p,0,S):=by
 unfold we;simp -implicitDefEqProofs only[go_sem,simprocAttr,he]
theorem xeq(p:Pk)(sb:Bool)(z:Nat)(st:List Int)(caps:List V)(hc:zt caps= [])(hy:xj caps=false)(xs:List (Int×Int))(hcall:zcz caps xs)(e1:(zu T).call 46 [xq p,.sl sb z (st.map zx)] [] 0 []=some (.fn 98 caps,[],0,[])):
  (zu T).call 110 [xq p,.sl sb z (st.map zx)] [] 0 []=some (.bool xs.isEmpty,[],0,[]):=by
 rw[xba];simp only[xq]at e1;simp -implicitDefEqProofs only[go_sem,simprocAttr,xq,e1,hc];cases xs with
 |nil=>
  have e:(zu T).call 98 (.yld (List.length ([]:xt))::caps) [] 0 ([]++ [⟨110,9,yi p sb z st caps,we p,0,(#[8]:Array Nat).toList,ki,kz,false,none,0⟩])=some (.tup [],[],0,[]++ [⟨110,9,yi p sb z st caps,we p,0,[8],ki,kz,false,none,0⟩]):=hcall _ _ _ rfl;unfold yi we xq at e;rw[zbf (f:= .tmp 7) (g:=98) (caps:=caps) (S:= []) (ps:= #[8]) rfl hc hy zaf.1 zaf.2.1 zel rfl e];simp -implicitDefEqProofs only[go_sem,simprocAttr]
 |cons x xs=>
  have hr:=yx1 p (yi p sb z st caps) rfl x [];have hY:=zba (S:= []) (own:=⟨110,9,yi p sb z st caps,we p,0,[8],ki,kz,false,none,0⟩) (by kernel_rfl) rfl (args:= [jb x]) rfl hr
  have e:(zu T).call 98 (.yld (List.length ([]:xt))::caps) [] 0 ([]++ [⟨110,9,yi p sb z st caps,we p,0,(#[8]:Array Nat).toList,ki,kz,false,none,0⟩])=some (.tup [],[],0,[]++ [⟨110,9,yi p sb z st caps,we p,0,[8],ki,kz,true,some .ret,0⟩]):=hcall _ _ false (by
   have hY':(zu T).yld 0 [jb x] [⟨110,9,yi p sb z st caps,we p,0,[8],ki,kz,false,none,0⟩]=some (false,[⟨110,9,yi p sb z st caps,we p,0,[8],ki,kz,true,some .ret,0⟩]):=hY;show(match (zu T).yld 0 [jb x] [⟨110,9,yi p sb z st caps,we p,0,[8],ki,kz,false,none,0⟩]with|some (true,S')=>qf T 0 (xs.map jb) S'|o=>o)=_;rw[hY'];rfl)
  unfold yi we xq at e;rw[zbf (f:= .tmp 7) (g:=98) (caps:=caps) (S:= []) (ps:= #[8]) rfl hc hy zaf.1 zaf.2.1 zel rfl e];simp -implicitDefEqProofs only[go_sem,simprocAttr]
theorem yi0{a b:Int}(h:qo [a,b]=0):a=0∧b=0:=by
 simp only[qo]at h;by_cases h1:a=0
 ·by_cases h2:b=0
  ·exact⟨h1,h2⟩
  ·simp[h1,h2]at h
 ·simp[h1]at h
def wo(p:Pk)(st:List Int):List (Int×Int):=allP p.n 0 ((jv p).map (·.2)) (ub p st)
theorem zpy{p:Pk}(ho:Ok p):∀r∈jv p,r.2.length=xa p:=by
 intro r hr;obtain⟨x,hx,rfl⟩:=List.mem_map.1 hr;have h:=zpv _ _ ((zmg ho x hx).2);have h2:=(zmg ho x hx).2;have h3:=zex p;simp only[gh];omega
theorem zo5{p:Pk}(ho:Ok p)(st:List Int):(wo p st).length≤64:=by
 have h:=xfv p.n 8 ((jv p).map (·.2)) 0 (ub p st) (fun r hr=>by
  obtain⟨x,hx,rfl⟩:=List.mem_map.1 hr;have:=zpy ho x hx;have:=ho.s8;omega)
 have v8:=ho.v8;simp only[List.length_map,show(jv p).length=p.v.length by simp[jv]]at h;unfold wo;omega
abbrev zcp(p:Pk)(st:List Int):List V:= [.pp 1 [.sl (!((jv p).map rwV).isEmpty) 1 ((jv p).map rwV)] 0 0,.pp 1 [.sl true 1 (((ub p st).map rvT).map u5)] 0 0,.pp 3 [xq p] 0 0]
theorem call125(p:Pk)(ho:Ok p)(st:List Int):zcz (zcp p st) (wo p st):=by
 intro S S' b h;have v8:=ho.v8;refine xea p _ _ (jv p) ((ub p st).map rvT) 0 (by simp[jv];omega) (by simp[jv,ub]) (xa p) ho.s8 (zpy ho) (yt4 st) S S' b ?_;rw[show((ub p st).map rvT).map (·.2)=ub p st by rw[List.map_map];exact List.map_id _];exact h
theorem zco(p:Pk)(st:List Int):zt (zcp p st)= []∧xj (zcp p st)=false:=⟨rfl,rfl⟩
def vw(x y:Int):Int:=bif decide (x<y)then -1 else bif decide (y<x)then 1 else 0
theorem zft(x y:Int):(zu T).call 94 [.int .i64 x,.int .i64 y] [] 0 []=some (.int .i64 (vw x y),[],0,[]):=by
 rw[yzg];unfold vw;cases h:decide (x<y)
 ·cases h2:decide (y<x)
  ·simp -implicitDefEqProofs only[go_sem,simprocAttr,zir,h,h2,zbk]
  ·simp -implicitDefEqProofs only[go_sem,simprocAttr,zir,h,h2,zbk]
 ·simp -implicitDefEqProofs only[go_sem,simprocAttr,zir,h]
def cmpL:List Int→List Int→Int
 | [],[]=>0
 | [],_::_=> -1
 |_::_,[]=>1
 |a::r,b::s=>bif vw a b !=0 then vw a b else cmpL r s
theorem yur(b c:Bool)(y z:Nat)(l m:List Int)(hy:l≠ []→y=1)(hz:m≠ []→z=1)(hb:l.length<1000000)(hm:m.length<1000000):∀i,i≤l.length→i≤m.length→(zu T).loop false [.code (.loop ziy),.inBlock 0,.code (.seq (.seq zlb (.cond (.tmp 35) (.seq zla .ret) .skip)) (.seq zk9 .ret))] ⟨95,36,0,[(0,.sl b y (l.map zx)),(1,.sl c z (m.map zx)),(9,.sl b y (l.map zx)),(10,.int .i64 l.length),(11,.int .i64 i)],[],0,[]⟩=
  some (.ret (.int .i64 (cmpL (l.drop i) (m.drop i))),[],0,[]):=by
 refine xh l.length ?_ fun i hi ih=> ?_
 ·intro hm2
  have h1:=xu l.length;rw[zq,List.drop_of_length_le (Nat.le_refl _)];by_cases h:l.length<m.length
  ·have h2:decide ((l.length:Int)<(m.length:Int))=true:=by simp;omega
   rw[List.drop_eq_getElem_cons h];simp -implicitDefEqProofs only[go_sem,simprocAttr,h1,h2];rfl
  ·have h2:decide ((l.length:Int)<(m.length:Int))=false:=by simp;omega
   rw[List.drop_of_length_le (by omega)];simp -implicitDefEqProofs only[go_sem,simprocAttr,h1,h2];rfl
 ·intro hm2
  obtain⟨h1,h2,h3,h4,h5⟩:=ze hi (by omega);have hy1:=hy (fun e=>by rw[e]at hi;cases hi);subst hy1;rw[zq,h5];by_cases h:i<m.length
  ·obtain⟨g1,g2,g3,g4,g5⟩:=ze h (by omega)
   have hz1:=hz (fun e=>by rw[e]at h;cases h);subst hz1;rw[g5];simp only[cmpL];have h6:decide ((i:Int)≥(m.length:Int))=false:=by simp;omega
   have h6':decide ((m.length:Int)≤(i:Int))=false:=by simp;omega
   cases h7:(vw l[i] m[i] !=0)
   ·simp only[cond_false]
    rw[←ih (by omega)];simp -implicitDefEqProofs only[go_sem,simprocAttr,h1,h2,h3,h4,g2,g3,h6,h6',zft,h7]
   ·simp -implicitDefEqProofs only[go_sem,simprocAttr,h1,h2,h3,h4,g2,g3,h6,h6',zft,h7]
  ·have h6:decide ((i:Int)≥(m.length:Int))=true:=by simp;omega
   have h6':decide ((m.length:Int)≤(i:Int))=true:=by simp;omega
   rw[show m.drop i= []from List.drop_of_length_le (by omega)];simp -implicitDefEqProofs only[go_sem,simprocAttr,h1,h2,h3,h4,h6,h6'];rfl
theorem ykr(b c:Bool)(y z:Nat)(l m:List Int)(hy:l≠ []→y=1)(hz:m≠ []→z=1)(hb:l.length<1000000)(hm:m.length<1000000):(zu T).call 95 [.sl b y (l.map zx),.sl c z (m.map zx)] [] 0 []=some (.int .i64 (cmpL l m),[],0,[]):=by
 rw[yzf];have h:=yur b c y z l m hy hz hb hm 0 (by omega) (by omega);rw[show((0:Nat):Int)=0 from rfl,List.drop_zero,List.drop_zero]at h;simp -implicitDefEqProofs only[go_sem,simprocAttr,h]
theorem xd3(x y:Int):(zu T).call 93 [.sl true 1 [.int .i64 x,.int .i64 y]] [] 0 []=some (.int .i64 (bif x !=0 then x else y),[],0,[]):=by
 rw[yzh];simp -implicitDefEqProofs only[go_sem,simprocAttr];rw[zq];cases h:(x !=0)
 ·simp -implicitDefEqProofs only[go_sem,simprocAttr,h,wrap64]
  rw[zq];cases h2:(y !=0)
  ·have:y=0:=by simpa using h2
   simp -implicitDefEqProofs only[go_sem,simprocAttr,h2,wrap64];rw[zq];simp -implicitDefEqProofs only[go_sem,simprocAttr];rw[this]
  ·simp -implicitDefEqProofs only[go_sem,simprocAttr,h2]
 ·simp -implicitDefEqProofs only[go_sem,simprocAttr,h]
def zn2(l m:List Int):Int:=bif vw l.length m.length !=0 then vw l.length m.length else cmpL l m
theorem c205(b c:Bool)(y z:Nat)(l m:List Int)(hy:l≠ []→y=1)(hz:m≠ []→z=1)(hb:l.length<1000000)(hm:m.length<1000000):(zu T).call 92 [.sl b y (l.map zx),.sl c z (m.map zx)] [] 0 []=some (.int .i64 (zn2 l m),[],0,[]):=by
 rw[yzi];have e:=ykr b c y z l m hy hz hb hm;unfold zn2;simp -implicitDefEqProofs only[go_sem,simprocAttr,zft,e,xd3]
def zfm:List V→Option (List Int)
 | []=>some []
 | .int .i64 n::r=>(match zfm r with|some l=>some (n::l)|none=>none)
 |_::_=>none
theorem znw:∀{vs l},zfm vs=some l→vs=l.map zx
 | [],l,h=>by cases h;rfl
 |v::r,l,h=>by
  unfold zfm at h;split at h
  ·rename_i h0;cases h0
  ·rename_i n r' h0
   cases h0;split at h
   ·rename_i l' hl
    cases h;rw[znw hl];rfl
   ·cases h
  ·cases h
def zhu(l:List Int)(y:Nat):Bool:=Nat.ble l.length 1000&&(Nat.beq l.length 0||Nat.beq y 1)
theorem zht{l:List Int}{y:Nat}(h:zhu l y=true):l.length<1000000∧(l≠ []→y=1):=by
 unfold zhu at h;simp only[Bool.and_eq_true,Bool.or_eq_true]at h;have h1:=Nat.le_of_ble_eq_true h.1;refine⟨by omega,fun hn=> ?_⟩;rcases h.2 with h2|h2
 ·have:=Nat.eq_of_beq_eq_true h2
  exact absurd (List.length_eq_zero_iff.1 this) hn
 ·exact Nat.eq_of_beq_eq_true h2
def yh5(f:FuncId)(args:List V):Option V:=
 match Nat.beq f 92 with
 |false=>none
 |true=>(match args with
  | [.sl _ y a,.sl _ z b]=>(match zfm a,zfm b with
   |some l,some m=>(match zhu l y&&zhu m z with|true=>some (.int .i64 (zn2 l m))|false=>none)
   |_,_=>none)
  |_=>none)
theorem yr(f:FuncId)(args:List V)(v:V)(h:yh5 f args=some v):(zu T).call f args [] 0 []=some (v,[],0,[]):=by
 unfold yh5 at h;split at h
 ·cases h
 ·rename_i hf
  have hf2:=Nat.eq_of_beq_eq_true hf;subst hf2;split at h
  ·split at h
   ·rename_i l m h1 h2
    split at h
    ·rename_i h3
     rw[Bool.and_eq_true]at h3;cases h;rw[znw h1,znw h2];exact c205 _ _ _ _ l m (zht h3.1).2 (zht h3.2).2 (zht h3.1).1 (zht h3.2).1
    ·cases h
   ·cases h
  ·cases h
def zn1:Nat→List Int→List (List Int)
 |0,_=> [[]]
 |_+1,[]=> []
 |s+1,x::xs=>(zn1 s xs).map (x:: ·)++zn1 (s+1) xs
def setsN(n:Nat):List (List Int):=(List.range (n+1)).flatMap fun s=>zn1 s ((List.range n).map Int.ofNat)
def gy(z:Nat)(l:List Int):V:= .sl (!l.isEmpty) (bif l.isEmpty then z else 1) (l.map fun n=> .int .i64 n)
def seZ(n:Nat):Nat:=bif Nat.ble n 3 then 0 else 1
theorem ms0:(zu T).call 45 [.int .i64 0] [] 0 []=some (.fn 118 [.pp 1 [.sl true 1 ((setsN 0).map (gy (seZ 0)))] 0 0],[],0,[]):=zdl yr 100000 (by kernel_rfl)
theorem ms1:(zu T).call 45 [.int .i64 1] [] 0 []=some (.fn 118 [.pp 1 [.sl true 1 ((setsN 1).map (gy (seZ 1)))] 0 0],[],0,[]):=zdl yr 100000 (by kernel_rfl)
theorem ms2:(zu T).call 45 [.int .i64 2] [] 0 []=some (.fn 118 [.pp 1 [.sl true 1 ((setsN 2).map (gy (seZ 2)))] 0 0],[],0,[]):=zdl yr 100000 (by kernel_rfl)
theorem ms3:(zu T).call 45 [.int .i64 3] [] 0 []=some (.fn 118 [.pp 1 [.sl true 1 ((setsN 3).map (gy (seZ 3)))] 0 0],[],0,[]):=zdl yr 100000 (by kernel_rfl)
theorem ms4:(zu T).call 45 [.int .i64 4] [] 0 []=some (.fn 118 [.pp 1 [.sl true 1 ((setsN 4).map (gy (seZ 4)))] 0 0],[],0,[]):=zdl yr 100000 (by kernel_rfl)
attribute [go_sem] gy
def jx(l:List Int):V:= .sl (!l.isEmpty) 1 (l.map zx)
attribute [go_sem] jx
theorem zpp(l:List Int):jx l= .sl (!l.isEmpty) 1 (l.map zx):=rfl
@[go_sem]theorem asSl_se{α:Type}(z:Nat)(x:List Int)(k:Bool→List V→Option α):vh 1 (.sl (!x.isEmpty) (bif x.isEmpty then z else 1) (x.map fun n=> .int .i64 n)) k=k (!x.isEmpty) (x.map zx):=by
 cases x with
 |nil=>simp[vh]
 |cons a r=>simp[vh];rfl
theorem yuo(z:Nat)(l:List (List Int))(d:Nat)(hl:l.length<1000000):∀i,i≤l.length→∀S S' b,qf T d ((l.drop i).map jx) S=some (b,S')→
  (zu T).loop false [.code (.loop zjm),.inBlock 0] ⟨118,16,0,[(0,.yld d),(5,.sl true 1 (l.map (gy z))),(6,.int .i64 l.length),(7,.int .i64 i)],[],0,S⟩=some (.ret (.tup []),[],0,S'):=by
 refine xh l.length ?_ fun i hi ih=> ?_
 ·intro S S' b h
  rw[List.drop_of_length_le (Nat.le_refl _)]at h;simp only[List.map_nil,qf,Option.some.injEq,Prod.mk.injEq]at h;obtain⟨_,rfl⟩:=h;have h1:=xu l.length;rw[zq];simp -implicitDefEqProofs only[go_sem,simprocAttr,h1]
 ·intro S S' b h
  obtain⟨h1,h2,h3,h4,h5⟩:=ze hi (by omega);rw[h5]at h;simp only[List.map_cons,qf]at h;generalize l[i]=x at h3 h;cases hy:(zu T).yld d [jx x] S with
  |none=>rw[hy]at h;cases h
  |some w=>
   obtain⟨c,S1⟩:=w;rw[hy]at h;rw[zpp]at hy;cases c
   ·simp only[Option.some.injEq,Prod.mk.injEq]at h
    obtain⟨_,rfl⟩:=h;rw[zq];simp -implicitDefEqProofs only[go_sem,simprocAttr,h1,h2,h3,h4,hy]
   ·rw[←ih _ _ _ h]
    conv=>lhs;rw[zq]
    simp -implicitDefEqProofs only[go_sem,simprocAttr,h1,h2,h3,h4,hy]
theorem zoa(z:Nat)(l:List (List Int))(d:Nat)(hl:l.length<1000000)(S S':xt)(b:Bool)(h:qf T d (l.map jx) S=some (b,S')):(zu T).call 118 [.yld d,.pp 1 [.sl true 1 (l.map (gy z))] 0 0] [] 0 S=some (.tup [],[],0,S'):=by
 rw[xa4];have e:=yuo z l d hl 0 (by omega) S S' b (by rw[List.drop_zero];exact h);rw[show((0:Nat):Int)=0 from rfl]at e;simp -implicitDefEqProofs only[go_sem,simprocAttr,e]
def expl(p:Pk)(l:List (List Int)):List (List Int):=l.filter fun st=>(wo p st).isEmpty
theorem call126(p:Pk)(ho:Ok p)(st:List Int)(hs:st.length<1000000)(hv:gx p st):(zu T).call 110 [xq p,jx st] [] 0 []=some (.bool (wo p st).isEmpty,[],0,[]):=by
 obtain⟨i1,i2⟩:=zco p st;exact xeq p _ _ st (zcp p st) i1 i2 (wo p st) (call125 p ho st) (ziu p ho _ _ st hs hv (fun _=>rfl))
def zj2(p:Pk)(H:zw)(l:List (List Int)):Prop:=2≤H.length∧H[0]? =some (.cells true true 76 [xq p])∧
 ((l= []∧∃fl,H[1]? =some (.cells true fl 73 [.sl false 0 []]))∨(l≠ []∧∃m fl,H[1]? =some (.cells true fl 73 [.ref m])∧H[m]? =some (.cells false true 39 (l.map jx))∧1<m∧m<H.length))
theorem ypq(p:Pk)(ho:Ok p)(env:Den.Env)(he1:xy env 1= .ptr 0 0 0)(he3:xy env 3= .ptr 1 0 0)(H:zw)(l:List (List Int))(x:List Int)(hx:x.length<1000000)(hv:gx p x)(hll:l.length<1000)(hI:zj2 p H l)(N:Nat)(hN:H.length=N):
  ∃H',zj2 p H' (l++expl p [x])∧runK (zu T) T true ql [.code zgd,.beginRound,.code zfs] ⟨77,18,N,(9,jx x)::env,H,0,[]⟩=some (.round none,H',0,[]):=by
 obtain⟨hN2,h0,hI⟩:=hI;have e:=call126 p ho x hx hv;rw[zpp]at e;have n0:0<N:=by omega
 have n1:1<N:=by omega
 cases hu:(wo p x).isEmpty
 ·rw[hu]at e
  refine⟨H,?_,?_⟩
  ·rw[show expl p [x]= [] by simp[expl,hu],List.append_nil]
   exact⟨hN2,h0,hI⟩
  ·simp only[xq]at e h0
   simp -implicitDefEqProofs only[go_sem,simprocAttr,he1,he3,h0,hN,n0,e]
 ·rw[hu]at e
  have hex:expl p [x]= [x]:=by simp[expl,hu]
  rw[hex];have d1:decide (1<N+1)=true:=decide_eq_true (by omega);have d2:decide (1<N+2)=true:=decide_eq_true (by omega);simp only[xq]at e h0;rcases hI with⟨rfl,fl,h1⟩|⟨hl,m,fl,h1,hm,hm1,hmN⟩
  ·refine⟨H.set 1 (.cells true false 73 [.ref (N+1)])++ [.cells false true 39 [jx x],.cells false true 39 [jx x]],⟨by simp,?_,.inr ⟨by simp,N+1,false,?_,?_,by omega,by simp[hN]⟩⟩,?_⟩
   ·rw[List.getElem?_append_left (by simp;omega),List.getElem?_set_ne (by omega),h0,xq]
   ·rw[List.getElem?_append_left (by simp;omega),List.getElem?_set_self (by omega)]
   ·rw[fk (by simp;exact hN)];rfl
   ·have h8:=(xf (n:=0) (by omega)).2
    simp -implicitDefEqProofs only[go_sem,simprocAttr,he1,he3,h0,h1,hN,n0,n1,e,gA,fk,sA,List.getElem?_append_left,List.set_append_left,List.append_assoc,List.length_set,h8,d1,d2,Nat.zero_shiftRight,Nat.and_zero,Nat.zero_or]
  ·have h8:=(xf (n:=l.length) (by omega)).1
   have d4:decide (m<N+1)=true:=decide_eq_true (by omega);have hmN':m<N:=by omega
   have hd1:(H.set m .dead)[1]? =some (.cells true fl 73 [.ref m]):=by rw[List.getElem?_set_ne (by omega),h1]
   refine⟨(H.set m .dead).set 1 (.cells true false 73 [.ref (N+1)])++ [.cells false true 39 [jx x],.cells false true 39 ((l++ [x]).map jx)],⟨by simp,?_,.inr ⟨by simp,N+1,false,?_,?_,by omega,by simp[hN]⟩⟩,?_⟩
   ·rw[List.getElem?_append_left (by simp;omega),List.getElem?_set_ne (by omega),List.getElem?_set_ne (by omega),h0,xq]
   ·rw[List.getElem?_append_left (by simp;omega),List.getElem?_set_self (by simp;omega)]
   ·rw[fk (by simp;exact hN)];rfl
   ·simp only[List.map_append,List.map_cons,List.map_nil]
    simp -implicitDefEqProofs only[go_sem,simprocAttr,he1,he3,h0,h1,hm,hd1,hN,n0,n1,hmN',e,gA,fk,sA,List.getElem?_append_left,List.set_append_left,List.append_assoc,List.length_set,h8,d1,d2,d4,Nat.zero_shiftRight,Nat.and_zero,Nat.zero_or]
abbrev v5(n:Nat):List V:= [.pp 1 [.sl true 1 ((setsN n).map (gy (seZ n)))] 0 0]
def zcl(p:Pk):Den.Env:= [(8,.fn 118 (v5 p.c.length)),(7,.int .i64 p.c.length),(6,.sl p.cb 3 (p.c.map czV)),(5,.ptr 0 0 2),(3,.ptr 1 0 0),(2,.sl false 0 []),(1,.ptr 0 0 0),(0,xq p)]
def zdf(p:Pk)(H:zw):Own:=⟨77,18,zcl p,H,0,[9],zgd,zfs,false,none,0⟩
theorem yyl(p:Pk)(x:List Int)(xs:List (List Int)):expl p (x::xs)=expl p [x]++expl p xs:=by
 unfold expl;cases h:(wo p x).isEmpty<;>simp[h]
theorem yjc(p:Pk)(xs:List (List Int)):(expl p xs).length≤xs.length:=List.length_filter_le _ _
theorem ypm(p:Pk)(ho:Ok p):∀(xs:List (List Int)),(∀x∈xs,x.length<1000000∧gx p x)→∀(H:zw) (l:List (List Int)),zj2 p H l→l.length+xs.length<1000→
  ∃H',zj2 p H' (l++expl p xs)∧qf T 0 (xs.map jx) [zdf p H]=some (true,[zdf p H']):=by
 intro xs
 induction xs with
 |nil=>intro _ H l hI _;exact⟨H,by rw[show expl p []= []from rfl,List.append_nil];exact hI,rfl⟩
 |cons x xs ih=>
  intro hx H l hI hl;simp only[List.length_cons]at hl;obtain⟨x1,x2⟩:=hx x (by simp);obtain⟨H1,hI1,hr⟩:=ypq p ho (zcl p) rfl rfl H l x x1 x2 (by omega) hI H.length rfl;have hy:=zba (S:= []) (own:=zdf p H) (by kernel_rfl) rfl (args:= [jx x]) rfl hr;have hlen:=yjc p [x];simp only[List.length_cons,List.length_nil]at hlen;obtain⟨H',j1,j2⟩:=ih (fun y hy=>hx y (by simp[hy])) H1 _ hI1 (by rw[List.length_append];omega);refine⟨H',by rw[yyl,←List.append_assoc];exact j1,?_⟩;have hy':(zu T).yld 0 [jx x] [zdf p H]=some (true,[zdf p H1]):=hy;simp only[List.map_cons,qf];rw[hy'];exact j2
abbrev exA(p:Pk):List (List Int):=expl p (setsN p.c.length)
theorem xd9(p:Pk)(ho:Ok p)(hl:(setsN p.c.length).length≤64)(hs:∀x∈setsN p.c.length,x.length<1000000∧gx p x)(h136:(zu T).call 45 [.int .i64 p.c.length] [] 0 []=some (.fn 118 (v5 p.c.length),[],0,[])):
  ∃H',(exA p= []∧(zu T).call 77 [xq p] [] 0 []=some (.sl false 0 [],H',0,[]))∨(exA p≠ []∧∃m,H'[m]? =some (.cells false true 39 ((exA p).map jx))∧(zu T).call 77 [xq p] [] 0 []=some (.ref m,H',0,[])):=by
 obtain⟨H',⟨i1,i2,i3⟩,hy⟩:=ypm p ho (setsN p.c.length) hs [.cells true true 76 [xq p],.cells true true 73 [.sl false 0 []]] [] ⟨by simp,rfl,.inl ⟨rfl,true,rfl⟩⟩ (by simp;omega);rw[List.nil_append]at i3
 have e:(zu T).call 118 (.yld (List.length ([]:xt))::v5 p.c.length) [] 0 ([]++ [⟨77,18,zcl p,[.cells true true 76 [xq p],.cells true true 73 [.sl false 0 []]],0,(#[9]:Array Nat).toList,zgd,zfs,false,none,0⟩])=some (.tup [],[],0,[]++ [zdf p H']):=
  zoa _ _ 0 (by omega) _ _ true hy
 have e0:=e;unfold zcl xq at e0
 have start:∀R,zb1 (runK (zu T) T false 99991 [.inBlock 0,.code (r77_6.seq .ret)] ⟨77,18,0,zcl p,H',0,[]⟩)=R→(zu T).call 77 [xq p] [] 0 []=R:=by
  intro R hR;rw[yzu];simp -implicitDefEqProofs only[go_sem,simprocAttr,xq,h136];rw[zbf (f:= .tmp 8) (g:=118) (caps:=v5 p.c.length) (S:= []) (ps:= #[9]) rfl rfl rfl zdw.1 zdw.2.1 zk4 rfl e0];exact hR
 refine⟨H',?_⟩;rcases i3 with⟨h1,fl,h2⟩|⟨h1,m,fl,h2,h3,h4,h5⟩
 ·refine .inl ⟨h1,start _ ?_⟩
  unfold zcl;simp -implicitDefEqProofs only[go_sem,simprocAttr,h2]
 ·refine .inr ⟨h1,m,h3,start _ ?_⟩
  unfold zcl;simp -implicitDefEqProofs only[go_sem,simprocAttr,h2]
structure Sok (p:Pk):Prop where
 len:(setsN p.c.length).length≤64
 el:∀x∈setsN p.c.length,x.length<1000000∧gx p x
 c136:(zu T).call 45 [.int .i64 p.c.length] [] 0 []=some (.fn 118 (v5 p.c.length),[],0,[])
theorem zoc(p:Pk)(hf:p.fit)(h:j8 p=0)(hs:Sok p)(hx:exA p≠ []):(zu T).call 38 [xq p] [] 0 []=some (.tup [.ref 1,.int .i64 0],[.cells true true 76 [xq p],.cells false true 39 ((exA p).map jx)],0,[]):=by
 rw[xai];have e1:=c23 p hf;rw[h]at e1
 have hne:(((exA p).length:Int)==0)=false:=by
  cases hc:exA p with
  |nil=>exact absurd hc hx
  |cons a r=>simp;omega
 obtain⟨H',⟨h1,e2⟩|⟨h1,m,h2,e2⟩⟩:=xd9 p (zdi h) hs.len hs.el hs.c136
 ·exact absurd h1 hx
 ·generalize exA p=E at*
  simp only[xq]at e1 e2;simp -implicitDefEqProofs only[go_sem,simprocAttr,xq,e1,e2,h2,jl,hne]
abbrev qh(l:List (List Int)):Row:= .cells false true 39 (l.map jx)
theorem xeo(x0:List Int)(l:List (List Int))(hl:l[0]? =some x0)(s:List Int):(zu T).call 40 [jx s,.ptr 0 0 0] [.cells true false 73 [.ref 1],qh l] 0 []=some (.bool (decide ((x0.length:Int)<s.length)),[.cells true false 73 [.ref 1],qh l],0,[]):=by
 rw[xah];have d:decide (0<(l.length:Int))=true:=decide_eq_true (by have:=(List.getElem?_eq_some_iff.1 hl).1;omega);simp -implicitDefEqProofs only[go_sem,simprocAttr,zbk,d,hl]
theorem call130(x0:List Int)(l:List (List Int))(hl:l[0]? =some x0)(s:List Int)(k:V→Prog)(S:xt)(rd wr fr:Nat)(sk:Bool)(K:V→zw→Nat→xt→FP→Option Out):(callP (zu T) T 40 [.sl (!s.isEmpty) 1 (s.map zx),.ptr 1 0 0] k).go none [.cells false true 39 (l.map jx),.cells true false 73 [.ref 0]] 0 S ⟨rd,wr,fr,sk⟩ K=
  (k (.bool (decide ((x0.length:Int)<s.length)))).go none [.cells false true 39 (l.map jx),.cells true false 73 [.ref 0]] 0 S ⟨rd|||bit 1|||bit 0|||bit 1|||bit 0,wr|||bit 1|||bit 0|||bit 1|||bit 0,fr,sk⟩ K:=by
 refine(zh5 (x:=1) (y:=0) yyg.1 rfl k (fun k'=>yqb (by omega) rfl rfl rfl 9996 k') rfl rfl rfl rfl rfl rfl (xeo x0 l hl s) rfl).trans ?_;simp -implicitDefEqProofs only[go_sem,simprocAttr];rfl
abbrev za2:Row:= .cells true false 73 [.ref 0]
abbrev f130:V:= .fn 40 [.ptr 1 0 0]
def zjx(l:List (List Int))(i:Nat):Option Out:=
 (zu T).loop false [.code (.loop zfy),.inBlock 0,.code (.seq zg0 .ret)]
  ⟨78,19,2,[(0,.ref 0),(1,f130),(7,.int .i64 l.length),(8,.int .i64 i)],[qh l,za2],0,[]⟩
structure Cut (x0:List Int) (l:List (List Int)) (n:Nat):Prop where
 hx:l[0]? =some x0
 le:n≤l.length
 ha:∀i (h:i<l.length),i<n→l[i].length≤x0.length
 hb:∀i (h:i<l.length),n≤i→x0.length<l[i].length
 hm:l.length<1000
theorem yuv(x0:List Int)(l:List (List Int))(n:Nat)(hc:Cut x0 l n):∀i,i≤n→zjx l i=some (.ret (.int .i64 (if n=l.length then -1 else n)),[qh l,za2],0,[]):=by
 have hm:=hc.hm;have hn:=hc.le;refine xh n ?_ fun i hi ih=> ?_
 ·unfold zjx
  rw[zq];by_cases hE:n=l.length
  ·have h1:=xu l.length
   rw[if_pos hE];subst hE;simp -implicitDefEqProofs only[go_sem,simprocAttr,h1]
  ·have hlt:n<l.length:=by omega
   obtain⟨h1,h2,h3,h4,h5⟩:=ze hlt (by omega);have hb:decide ((x0.length:Int)<l[n].length)=true:=by have:=hc.hb n hlt (Nat.le_refl _);simp;omega
   rw[if_neg hE];have e:=call130 x0 l hc.hx l[n];simp -implicitDefEqProofs only[go_sem,simprocAttr,h1,h2,h3,e,hb]
 ·have hlt:i<l.length:=by omega
  obtain⟨h1,h2,h3,h4,h5⟩:=ze hlt (by omega);have hb:decide ((x0.length:Int)<l[i].length)=false:=by have:=hc.ha i hlt hi;simp;omega
  rw[←ih];unfold zjx
  conv=>lhs;rw[zq]
  have e:=call130 x0 l hc.hx l[i];simp -implicitDefEqProofs only[go_sem,simprocAttr,h1,h2,h3,h4,e,hb]
theorem xd8(x0:List Int)(l:List (List Int))(n:Nat)(hc:Cut x0 l n):(zu T).call 78 [.ref 0,f130] [qh l,za2] 0 []=some (.int .i64 (if n=l.length then -1 else n),[qh l,za2],0,[]):=by
 have h:=yuv x0 l n hc 0 (by omega);unfold zjx at h;rw[show((0:Nat):Int)=0 from rfl]at h;rw[yjq];simp -implicitDefEqProofs only[go_sem,simprocAttr,h]
theorem xdj(x0:List Int)(l:List (List Int))(n:Nat)(hc:Cut x0 l n)(k:V→Prog)(S:xt)(rd wr fr:Nat)(sk:Bool)(K:V→zw→Nat→xt→FP→Option Out):(callP (zu T) T 78 [.ref 0,.fn 40 [.ptr 1 0 0]] k).go none [.cells false true 39 (l.map jx),.cells true false 73 [.ref 0]] 0 S ⟨rd,wr,fr,sk⟩ K=
  (k (.int .i64 (if n=l.length then -1 else n))).go none [.cells false true 39 (l.map jx),.cells true false 73 [.ref 0]] 0 S ⟨rd|||bit 0|||bit 1|||bit 0|||bit 1,wr|||bit 0|||bit 1|||bit 0|||bit 1,fr,sk⟩ K:=by
 refine(zh5 (x:=0) (y:=1) yi9.1 rfl k (fun k'=>zk6 (by omega) rfl rfl rfl 9996 k') rfl rfl rfl rfl rfl rfl (xd8 x0 l n hc) rfl).trans ?_;simp -implicitDefEqProofs only[go_sem,simprocAttr];rfl
def zjz(l:List (List Int))(n j:Nat):Option Out:=
 (zu T).loop false [.code (.loop zf2),.inBlock 0,.code (.seq zg4 (.seq zg3 .ret))]
  ⟨39,42,2,[(0,.ref 0),(1,f130),(5,.int .i64 n),(6,.int .i64 j)],[qh l,za2],0,[]⟩
abbrev clr(l:List (List Int))(n:Nat):List V:=(l.map jx).take n++(List.replicate (l.length- n) (.sl false 0 [])++(l.map jx).drop (n+(l.length- n)))
theorem yu8(x0:List Int)(l:List (List Int))(n:Nat)(hc:Cut x0 l n):∀j,j≤l.length→n≤j→zjz l n j=some (.ret (.sub 0 0 n),[.cells false true 39 (clr l n),za2],0,[]):=by
 have hm:=hc.hm;have hn:=hc.le;refine xh l.length ?_ fun j hj ih=> ?_
 ·intro _
  unfold zjz;rw[zq];have h1:=xu l.length;have d1:decide (n≤l.length)=true:=decide_eq_true hn;have d2:decide (0≤(n:Int))=true:=decide_eq_true (by omega);have d3:decide (n≤l.length∧l.length≤l.length)=true:=decide_eq_true ⟨hn,Nat.le_refl _⟩;have d4:decide (0≤n∧n≤(List.take n (List.map jx l)).length+((List.replicate (l.length- n) (V.sl false 0 [])).length+(List.drop (n+(l.length- n)) (List.map jx l)).length))=true:=decide_eq_true ⟨Nat.zero_le _,by simp;omega⟩;simp -implicitDefEqProofs only[go_sem,simprocAttr,h1,d1,d2,d3,d4,Nat.sub_zero]
 ·intro hAj
  obtain⟨h1,h2,h3,h4,h5⟩:=ze hj (by omega);have hb:decide ((x0.length:Int)<l[j].length)=true:=by have:=hc.hb j hj hAj;simp;omega
  rw[←ih (by omega)];unfold zjz
  conv=>lhs;rw[zq]
  have e:=call130 x0 l hc.hx l[j];simp -implicitDefEqProofs only[go_sem,simprocAttr,h1,h2,h3,h4,e,hb]
theorem xep(x0:List Int)(l:List (List Int))(n:Nat)(hc:Cut x0 l n):(zu T).call 39 [.ref 0,f130] [qh l,za2] 0 []=if n=l.length then some (.ref 0,[qh l,za2],0,[])else some (.sub 0 0 n,[.cells false true 39 (clr l n),za2],0,[]):=by
 rw[yju];have e:=xdj x0 l n hc;have hm:=hc.hm;have hn:=hc.le;by_cases hE:n=l.length
 ·rw[if_pos hE]
  simp only[if_pos hE]at e;simp -implicitDefEqProofs only[go_sem,simprocAttr,e]
 ·rw[if_neg hE]
  simp only[if_neg hE]at e;have hb:((n:Int)== -1)=false:=by simp
  have hw:IntKind.i64.wrap ((n:Int)+1)=((n+1:Nat):Int):=by rw[wrap64]<;>omega
  have h:=yu8 x0 l n hc (n+1) (by omega) (by omega);unfold zjz at h;simp -implicitDefEqProofs only[go_sem,simprocAttr,e,hb,hw,h]
theorem c36(p:Pk)(hf:p.fit)(h0:j8 p=0)(hs:Sok p)(x0:List Int)(n:Nat)(hc:Cut x0 (exA p) n):(zu T).call 15 [xq p] [] 0 []=some (.tup [.sl true 1 (((exA p).take n).map jx),.int .i64 0],[],0,[]):=by
 rw[xau];have hne:exA p≠ []:=fun e=>by have:=hc.hx;rw[e]at this;cases this
 have e1:=zoc p hf h0 hs hne;have e2:=xep x0 (exA p) n hc;have hm:=hc.hm;have hn:=hc.le;generalize exA p=l at*;simp only[xq]at e1;by_cases hE:n=l.length
 ·rw[if_pos hE]at e2
  have e3:∀(k:V→Prog) (S:xt) (rd wr fr:Nat) (sk:Bool) (K:V→zw→Nat→xt→FP→Option Out) (r0:Row),(callP (zu T) T 39 [.ref 1,.fn 40 [.ptr 2 0 0]] k).go none [r0,.cells false true 39 (l.map jx),.cells true false 73 [.ref 1]] 0 S ⟨rd,wr,fr,sk⟩ K=
    (k (.ref 1)).go none [r0,.cells false true 39 (l.map jx),.cells true false 73 [.ref 1]] 0 S ⟨rd|||bit 1|||bit 2|||bit 1|||bit 2,wr|||bit 1|||bit 2|||bit 1|||bit 2,fr,sk⟩ K:=by
   intro k S rd wr fr sk K r0;refine(zh5 (x:=1) (y:=2) zfe.1 rfl k (fun k'=>zk6 (by omega) rfl rfl rfl 9996 k') rfl rfl rfl rfl rfl rfl e2 rfl).trans ?_;simp -implicitDefEqProofs only[go_sem,simprocAttr];rfl
  rw[hE,List.take_length];simp -implicitDefEqProofs only[go_sem,simprocAttr,xq,e1,e3]
 ·rw[if_neg hE]at e2
  have e3:∀(k:V→Prog) (S:xt) (rd wr fr:Nat) (sk:Bool) (K:V→zw→Nat→xt→FP→Option Out) (r0:Row),(callP (zu T) T 39 [.ref 1,.fn 40 [.ptr 2 0 0]] k).go none [r0,.cells false true 39 (l.map jx),.cells true false 73 [.ref 1]] 0 S ⟨rd,wr,fr,sk⟩ K=
    (k (.sub 1 0 n)).go none [r0,.cells false true 39 (clr l n),.cells true false 73 [.ref 1]] 0 S ⟨rd|||bit 1|||bit 2|||bit 1|||bit 2,wr|||bit 1|||bit 2|||bit 1|||bit 2,fr,sk⟩ K:=by
   intro k S rd wr fr sk K r0;refine(zh5 (x:=1) (y:=2) zfe.1 rfl k (fun k'=>zk6 (by omega) rfl rfl rfl 9996 k') rfl rfl rfl rfl rfl rfl e2 rfl).trans ?_;simp -implicitDefEqProofs only[go_sem,simprocAttr];rfl
  have ht:(clr l n).take n=(l.take n).map jx:=by
   rw[List.take_append_of_le_length (by simp;omega),List.take_take,Nat.min_self,List.map_take]
  simp -implicitDefEqProofs only[go_sem,simprocAttr,xq,e1,e3,List.drop_zero,ht]
def zca(x:Int):Nat→List Int→Int
 |_,[]=> -1
 |i,a::r=>bif x==a then i else zca x (i+1) r
def vi(x:Int)(l:List Int):Bool:=l.any fun a=>a==x
theorem yxe(x:Int):∀(l:List Int) (i:Nat),decide (0≤zca x i l)=vi x l:=by
 intro l
 induction l with
 |nil=>intro i;rfl
 |cons a r ih=>
  intro i;rw[show zca x i (a::r)=bif x==a then(i:Int)else zca x (i+1) r from rfl,show vi x (a::r)=(a==x||vi x r)from rfl,←ih (i+1)];by_cases h:x=a
  ·subst h;simp
  ·have h1:(x==a)=false:=by simpa using h
   have h2:(a==x)=false:=by simpa using fun e=>h (Eq.symm e)
   simp only[h1,h2,cond_false,Bool.false_or]
theorem yup(x:Int)(b:Bool)(z:Nat)(l:List Int)(hz:l≠ []→z=1)(hb:l.length<1000000):∀i,i≤l.length→(zu T).loop false [.code (.loop zf6),.inBlock 0,.code (.seq zhb .ret)] ⟨108,19,0,[(0,.sl b z (l.map zx)),(1,.int .i64 x),(7,.int .i64 l.length),(8,.int .i64 i)],[],0,[]⟩=
  some (.ret (.int .i64 (zca x i (l.drop i))),[],0,[]):=by
 refine xh l.length ?_ fun i hi ih=> ?_
 ·have h1:=xu l.length
  rw[zq,List.drop_of_length_le (Nat.le_refl _)];simp -implicitDefEqProofs only[go_sem,simprocAttr,h1];rfl
 ·obtain⟨h1,h2,h3,h4,h5⟩:=ze hi (by omega)
  have hz1:=hz (fun e=>by rw[e]at hi;cases hi);subst hz1;rw[zq,h5];simp only[zca];cases h6:(x==l[i])
  ·simp only[cond_false]
   rw[←ih];simp -implicitDefEqProofs only[go_sem,simprocAttr,h1,h2,h3,h4,h6]
  ·simp only[cond_true]
   simp -implicitDefEqProofs only[go_sem,simprocAttr,h1,h2,h3,h4,h6]
theorem xd0(x:Int)(b:Bool)(z:Nat)(l:List Int)(hz:l≠ []→z=1)(hb:l.length<1000000):(zu T).call 108 [.sl b z (l.map zx),.int .i64 x] [] 0 []=some (.int .i64 (zca x 0 l),[],0,[]):=by
 rw[yj2];have h:=yup x b z l hz hb 0 (by omega);rw[show((0:Nat):Int)=0 from rfl,List.drop_zero]at h;simp -implicitDefEqProofs only[go_sem,simprocAttr,h]
theorem zbm(a b:Int):decide (a≥b)=decide (b≤a):=rfl
theorem xd6(x:Int)(b:Bool)(z:Nat)(l:List Int)(hz:l≠ []→z=1)(hb:l.length<1000000):(zu T).call 72 [.sl b z (l.map zx),.int .i64 x] [] 0 []=some (.bool (vi x l),[],0,[]):=by
 rw[yjr];have h:=xd0 x b z l hz hb;simp -implicitDefEqProofs only[go_sem,simprocAttr,h,zbm,yxe]
theorem yus(x:Int)(b:Bool)(z:Nat)(l:List Int)(hz:l≠ []→z=1)(hb:l.length<1000000):∀i,i≤l.length→(zu T).loop false [.code (.loop zjk),.inBlock 0,.code (.seq zl1 .ret)] ⟨13,18,0,[(0,.sl b z (l.map zx)),(1,.int .i64 x),(5,.int .i64 i)],[],0,[]⟩=
  some (.ret (.bool (vi x (l.drop i))),[],0,[]):=by
 refine xh l.length ?_ fun i hi ih=> ?_
 ·have h1:=xu l.length
  rw[zq,List.drop_of_length_le (Nat.le_refl _)];simp -implicitDefEqProofs only[go_sem,simprocAttr,h1];rfl
 ·obtain⟨h1,h2,h3,h4,h5⟩:=ze hi (by omega)
  have hz1:=hz (fun e=>by rw[e]at hi;cases hi);subst hz1;rw[zq,h5];simp only[vi,List.any_cons]at ih⊢;cases h6:(l[i]==x)
  ·simp only[Bool.false_or]
   rw[←ih];simp -implicitDefEqProofs only[go_sem,simprocAttr,h1,h2,h3,h4,h6]
  ·simp only[Bool.true_or]
   simp -implicitDefEqProofs only[go_sem,simprocAttr,h1,h2,h3,h4,h6]
theorem xd5(x:Int)(b:Bool)(z:Nat)(l:List Int)(hz:l≠ []→z=1)(hb:l.length<1000000):(zu T).call 13 [.sl b z (l.map zx),.int .i64 x] [] 0 []=some (.bool (vi x l),[],0,[]):=by
 rw[xaz];have h:=yus x b z l hz hb 0 (by omega);rw[show((0:Nat):Int)=0 from rfl,List.drop_zero]at h;simp -implicitDefEqProofs only[go_sem,simprocAttr,h]
def cnt(x:Int)(L:List (List Int)):Nat:=L.countP (vi x)
theorem xb5(x:Int)(l:List Int)(L:List (List Int)):cnt x (l::L)=(bif vi x l then 1 else 0)+cnt x L:=by
 unfold cnt;rw[List.countP_cons];cases vi x l<;>simp<;>omega
def gv(w:List UInt8):V:= .str w
attribute [go_sem] gv
theorem yks(n:List UInt8)(c:Int)(b:Bool)(l:List (Int×Int)):(zu T).call 90 [.agg [.str n,.int .i64 c,.sl b 2 (l.map v9)]] [] 0 []=some (.str n,[],0,[]):=by
 rw[yzj];simp -implicitDefEqProofs only[go_sem,simprocAttr]
theorem yu2(b:Bool)(l:List (Cz))(hb:l.length<1000000):∀i,i≤l.length→∀o:Option (List (List UInt8)),u4 o=i→
  (zu T).loop false [.code (.loop ziz),.inBlock 0,.code (.seq zlc .ret)] ⟨89,22,0,[(1,.fn 90 []),(5,u9 o 0),(8,.sl b 3 (l.map czV)),(9,.int .i64 l.length),(10,.int .i64 i)],gz gv o 9,0,[]⟩=
   some (.ret (uz gv 0 1 (vm o ((l.drop i).map (fun c=>c.n)))),[],0,[]):=by
 refine xh l.length ?_ fun i hi ih o ho=> ?_
 ·intro o ho
  rw[zq];have h1:=xu l.length;cases o with
  |none=>
   simp -implicitDefEqProofs only[go_sem,simprocAttr,h1];simp[vm,uz]
  |some a=>
   simp -implicitDefEqProofs only[go_sem,simprocAttr,h1];simp[vm,uz]
 ·obtain⟨h1,h2,h3,h4,h5⟩:=ze hi (by omega)
  rw[zq,h5];have ih':=ih (vm o [((fun c=>c.n) l[i])]) (by rw[kf,ho];rfl);rw[kn]at ih';dsimp only at ih';cases o with
  |none=>
   have h8:=xf (n:=0) (by omega);simp only[km,qd,qm,List.map_cons,List.map_nil,gv]at ih';simp -implicitDefEqProofs only[go_sem,simprocAttr,h1,h2,h3,h4,ih',h8.2,yks]
  |some a=>
   have h9:a.length=i:=ho;have h8:=(xf (n:=a.length) (by omega)).1;simp only[kp,qd,qm,List.map_append,List.map_cons,List.map_nil,gv]at ih';simp -implicitDefEqProofs only[go_sem,simprocAttr,h1,h2,h3,h4,ih',h8,yks]
theorem xeh(b:Bool)(l:List (Cz))(hb:l.length<1000000):(zu T).call 89 [.sl b 3 (l.map czV),.fn 90 []] [] 0 []=some (k7 1 (((l).map (fun c=>c.n)).map gv),[],0,[]):=by
 rw[yjp];have h:=yu2 b l hb 0 (by omega) none rfl;rw[show((0:Nat):Int)=0 from rfl,List.drop_zero,zal]at h;simp only[vz,vx]at h;simp -implicitDefEqProofs only[go_sem,simprocAttr,h]
theorem xeg:(zu T).call 89 [.sl false 0 [],.fn 90 []] [] 0 []=some (.sl false 0 [],[],0,[]):=by
 rw[yjp];simp -implicitDefEqProofs only[go_sem,simprocAttr];rw[zq];simp -implicitDefEqProofs only[go_sem,simprocAttr]
theorem xem(a b:Int):(zu T).call 44 [.int .i64 a,.int .i64 b] [] 0 []=some (.bool (a==b),[],0,[]):=by
 rw[xad];simp -implicitDefEqProofs only[go_sem,simprocAttr]
def yq(g:Int→Int→Bool)(L:List (List Int)):Nat→List Cz→List Cz
 |_,[]=> []
 |i,c::r=>bif g (cnt i L) L.length then c::yq g L (i+1) r else yq g L (i+1) r
structure IsF (f:Nat) (g:Int→Int→Bool):Prop where
 c:∀a b:Int,(zu T).call f [.int .i64 a,.int .i64 b] [] 0 []=some (.bool (g a b),[],0,[])
 y:T.byref f=false
 p:T.prim f=none
 r:zm T f 4
theorem yw3:IsF 44 (fun a b=>a==b):=⟨xem,yja.1,yja.2.1,ypw⟩
def zam(f:Nat)(p:Pk)(L:List (List Int))(o:Option (List Cz))(i:Nat)(c:Cz)(n j:Nat):Option Out:=
 (zu T).loop false [.code (.loop zjc),.inBlock 2,.code (.seq zlq (.cond (.tmp 46) zlp .skip)),.inBlock 1,.code zlo,.inLoop zf1,.inBlock 0,.code (.seq zg2 .ret)]
  ⟨43,54,0,[(1,.fn f []),(6,.ref 0),(8,u9 o 1),(9,.int .i64 i),(10,.ptr (acI o 1) 0 0),(11,.int .i64 n),(23,.sl p.cb 3 (p.c.map czV)),(24,.int .i64 p.c.length),(25,.int .i64 i),(30,.ref 0),(31,.int .i64 L.length),(32,.int .i64 j)],
   qh L::(gz czV o 103++ [.cells true true 103 [czV c]]),0,[]⟩
theorem yu5(f:Nat)(p:Pk)(L:List (List Int))(hL:L.length<1000)(hl:∀l∈L,l.length<1000000)(o:Option (List Cz))(i:Nat)(c:Cz):∀j,j≤L.length→∀n,n≤j→zam f p L o i c n j=zam f p L o i c (n+cnt i (L.drop j)) L.length:=by
 refine xh L.length ?_ fun j hj ih=> ?_
 ·intro n _
  rw[List.drop_of_length_le (Nat.le_refl _)];rfl
 ·intro n hn
  obtain⟨h1,h2,h3,h4,h5⟩:=ze hj (by omega);have hw:IntKind.i64.wrap ((n:Int)+1)=((n+1:Nat):Int):=by rw[wrap64]<;>omega
  have e:=xd6 i (!L[j].isEmpty) 1 L[j] (fun _=>rfl) (hl _ (List.getElem_mem hj));rw[h5,xb5];cases h6:vi i L[j]
  ·rw[h6]at e
   simp only[cond_false,Nat.zero_add];rw[←ih n (by omega)]
   conv=>lhs;unfold zam;rw[zq]
   unfold zam;cases o with
   |none=>
    simp only[vz,vx,zga,List.nil_append,czV];simp -implicitDefEqProofs only[go_sem,simprocAttr,h1,h2,h3,h4,e]
   |some a=>
    simp only[qd,qm,zd9,List.cons_append,List.nil_append,Nat.reduceAdd,czV];simp -implicitDefEqProofs only[go_sem,simprocAttr,h1,h2,h3,h4,e]
  ·rw[h6]at e
   simp only[cond_true];rw[←Nat.add_assoc,←ih (n+1) (by omega)]
   conv=>lhs;unfold zam;rw[zq]
   unfold zam;cases o with
   |none=>
    simp only[vz,vx,zga,List.nil_append,czV];simp -implicitDefEqProofs only[go_sem,simprocAttr,h1,h2,h3,h4,e,hw]
   |some a=>
    simp only[qd,qm,zd9,List.cons_append,List.nil_append,Nat.reduceAdd,czV];simp -implicitDefEqProofs only[go_sem,simprocAttr,h1,h2,h3,h4,e,hw]
def zcx(f:Nat)(p:Pk)(L:List (List Int))(o:Option (List Cz))(i:Nat):Option Out:=
 (zu T).loop false [.code (.loop zf1),.inBlock 0,.code (.seq zg2 .ret)]
  ⟨43,54,0,[(1,.fn f []),(6,.ref 0),(8,u9 o 1),(23,.sl p.cb 3 (p.c.map czV)),(24,.int .i64 p.c.length),(25,.int .i64 i)],qh L::gz czV o 103,0,[]⟩
def nmO(o:Option (List Cz)):List V:=((o.getD []).map fun c=>c.n).map gv
theorem yu6(f:Nat)(g:Int→Int→Bool)(hF:IsF f g)(p:Pk)(hp:p.c.length<1000)(L:List (List Int))(hL:L.length<1000)(hl:∀l∈L,l.length<1000000):∀i,i≤p.c.length→∀o,u4 o≤i→
  zcx f p L o i=some (.ret (.tup [.sl (!(nmO (vm o (yq g L i (p.c.drop i)))).isEmpty) 1 (nmO (vm o (yq g L i (p.c.drop i)))),.int .i64 0]),[],0,[]):=by
 refine xh p.c.length ?_ fun i hi ih=> ?_
 ·intro o ho
  unfold zcx;rw[zq,List.drop_of_length_le (Nat.le_refl _),show yq g L p.c.length []= []from by unfold yq;rfl,zou];have h1:=xu p.c.length;cases o with
  |none=>
   simp -implicitDefEqProofs only[go_sem,simprocAttr,h1,xeg];rfl
  |some a=>
   have ha:a.length≤p.c.length:=ho;have e:=xeh true a (by omega);simp -implicitDefEqProofs only[go_sem,simprocAttr,h1,e];rfl
 ·intro o ho
  obtain⟨h1,h2,h3,h4,h5⟩:=ze hi (by omega);rw[h5];simp only[yq];have hI:=yu5 f p L hL hl o i p.c[i] 0 (by omega) 0 (by omega);rw[Nat.zero_add,List.drop_zero]at hI;have hE:=xu L.length
  have head:zcx f p L o i=zam f p L o i p.c[i] 0 0:=by
   conv=>lhs;unfold zcx;rw[zq]
   unfold zam;rw[show((0:Nat):Int)=0 from rfl];cases o with
   |none=>
    simp only[vz,vx,zga,List.nil_append];simp -implicitDefEqProofs only[go_sem,simprocAttr,h1,h2,h3]
   |some a=>
    simp only[qd,qm,zd9,List.cons_append,List.nil_append,Nat.reduceAdd];simp -implicitDefEqProofs only[go_sem,simprocAttr,h1,h2,h3]
  rw[head,hI];have hg:=hF.c (cnt i L) L.length;have hy:=hF.y;have hpr:=hF.p;have hr:zm T f 4:=hF.r;generalize p.c[i]=c at*;cases h6:g (cnt i L) L.length
  ·rw[h6]at hg
   simp only[cond_false];rw[←ih o (by omega)];unfold zam;rw[zq];unfold zcx;cases o with
   |none=>
    simp only[vz,vx,zga,List.nil_append,czV];simp -implicitDefEqProofs only[go_sem,simprocAttr,hE,h4,hg,hy,hpr,hr]
   |some a=>
    simp only[qd,qm,zd9,List.cons_append,List.nil_append,Nat.reduceAdd,czV];simp -implicitDefEqProofs only[go_sem,simprocAttr,hE,h4,hg,hy,hpr,hr]
  ·rw[h6]at hg
   simp only[cond_true];have ih':=ih (vm o [c]) (by rw[kf];simp only[List.length_cons,List.length_nil];omega);rw[kn]at ih';simp only[List.cons_append,List.nil_append]at ih';rw[←ih'];unfold zam;rw[zq];unfold zcx;cases o with
   |none=>
    have h8:=(xf (n:=0) (by omega)).2;simp only[km,vz,vx,zga,qd,qm,zd9,List.cons_append,List.nil_append,Nat.reduceAdd,List.map_cons,List.map_nil,czV];simp -implicitDefEqProofs only[go_sem,simprocAttr,hE,h4,hg,hy,hpr,hr,h8]
   |some a=>
    have h9:a.length≤i:=ho;have h8:=(xf (n:=a.length) (by omega)).1;simp only[kp,qd,qm,zd9,List.cons_append,List.nil_append,Nat.reduceAdd,List.map_append,List.map_cons,List.map_nil,czV];simp -implicitDefEqProofs only[go_sem,simprocAttr,hE,h4,hg,hy,hpr,hr,h8]
def zc8(g:Int→Int→Bool)(L:List (List Int))(l:List Cz):List (List UInt8):=(yq g L 0 l).map fun c=>c.n
theorem ys4(g:Int→Int→Bool)(L:List (List Int))(l:List Cz):nmO (vm none (yq g L 0 l))=(zc8 g L l).map gv:=by
 unfold nmO zc8;cases yq g L 0 l<;>rfl
theorem yyo{p:Pk}(hs:Sok p):(exA p).length<1000∧∀l∈exA p,l.length<1000000:=
 ⟨by have:=yjc p (setsN p.c.length);have:=hs.len;show(expl p (setsN p.c.length)).length<1000;omega,fun l hl=>(hs.el l (List.mem_filter.1 hl).1).1⟩
theorem xen(f:Nat)(g:Int→Int→Bool)(hF:IsF f g)(p:Pk)(hf:p.fit)(h:j8 p=0)(hs:Sok p)(hx:exA p≠ []):(zu T).call 43 [xq p,.fn f []] [] 0 []=
  some (.tup [.sl (!((zc8 g (exA p) p.c).map gv).isEmpty) 1 ((zc8 g (exA p) p.c).map gv),.int .i64 0],[],0,[]):=by
 rw[xae];have e1:=zoc p hf h hs hx;have hc8:=(zdi h).c8;obtain⟨k1,k2⟩:=yyo hs;have hl:=yu6 f g hF p (by omega) (exA p) k1 k2 0 (by omega) none (by simp[xfx]);rw[List.drop_zero,ys4]at hl;generalize exA p=L at*;unfold zcx at hl;simp only[vz,vx,show((0:Nat):Int)=0 from rfl]at hl;simp only[xq]at e1;simp -implicitDefEqProofs only[go_sem,simprocAttr,xq,e1,hl]
theorem c37(p:Pk)(v:V)(e:Int)(b:Bool)(z:Nat)(l:List V)(h:(zu T).call 43 [xq p,.fn 44 []] [] 0 []=some (.tup [.sl b z l,.int .i64 e],[],0,[]))(hz:z=1∨b=false):(zu T).call 17 [xq p] [] 0 []=some (.tup [.sl b 1 l,.int .i64 e],[],0,[]):=by
 rw[xas];simp only[xq]at h;rcases hz with rfl|rfl
 ·simp -implicitDefEqProofs only[go_sem,simprocAttr,xq,h,vh,xn,Bool.true_or,beq_self_eq_true]
 ·simp -implicitDefEqProofs only[go_sem,simprocAttr,xq,h,vh,xn,Bool.not_false,Bool.or_true]
end Go.Den.FaT
end
