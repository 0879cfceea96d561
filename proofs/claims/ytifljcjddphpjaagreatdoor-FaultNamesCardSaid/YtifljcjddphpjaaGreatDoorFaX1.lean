import Derived.Test.YtifljcjddphpjaaGreatDoorFaS0
import Derived.Test.YtifljcjddphpjaaGreatDoorZO
import Derived.Test.YtifljcjddphpjaaGreatDoorFaX0
import Derived.Test.YtifljcjddphpjaaGreatDoorZR
import Derived.Lib.IndexLaws
import Derived.Test.YtifljcjddphpjaaGreatDoorZP
set_option linter.all false
set_option maxHeartbeats 8000000
set_option maxRecDepth 100000
noncomputable section
namespace Go.Den.FaT
open Go Go.Proofs Go.Den
theorem qo(b:Bool)(e:Int):(zy T).call 115 [.bool b,.int .i64 e] [] 0 []=some (.int .i64 (cond b e 0),[],0,[]):=by
 rw[xhk];cases b
 ·simp -implicitDefEqProofs only[go_sem,simprocAttr]
 ·simp -implicitDefEqProofs only[go_sem,simprocAttr]
theorem ua(b:Bool)(e:Int):(zy T).call 39 [.bool b,.int .i64 e] [] 0 []=some (.int .i64 (cond b e 0),[],0,[]):=by
 rw[xfk];cases b
 ·simp -implicitDefEqProofs only[go_sem,simprocAttr]
 ·simp -implicitDefEqProofs only[go_sem,simprocAttr]
theorem zpb(n a b:Int):(zy T).call 137 [.int .i64 n,.int .i64 a,.int .i64 b] [] 0 []=some (.int .i64 (kq n a b),[],0,[]):=by
 rw[xg6];cases h:decide (n<a)
 ·simp -implicitDefEqProofs only[go_sem,simprocAttr,h,qo,kq]
 ·simp -implicitDefEqProofs only[go_sem,simprocAttr,h,qo,kq]
theorem c90(n a b:Int):(zy T).call 90 [.int .i64 n,.int .i64 a,.int .i64 b] [] 0 []=some (.int .i64 (kq n a b),[],0,[]):=by
 rw[xfe];cases h:decide (n<a)
 ·simp -implicitDefEqProofs only[go_sem,simprocAttr,h,ua,kq]
 ·simp -implicitDefEqProofs only[go_sem,simprocAttr,h,ua,kq]
theorem xbr(b:Bool)(l:List Int)(hb:l.length<4611686018427387904):∀i,i≤l.length→(zy T).loop false [.code (.loop zkr),.inBlock 0,.code (.seq zm2 .ret)] ⟨114,15,0,[(5,.sl b 1 (l.map fun n=> .int .i64 n)),(6,.int .i64 l.length),(7,.int .i64 i)],[],0,[]⟩=some (.ret (.int .i64 (fnz (l.drop i))),[],0,[]):=by
 refine xv l.length ?_ fun i hi ih=> ?_
 ·rw[zj]
  have h1:=xz l.length;simp -implicitDefEqProofs only[go_sem,simprocAttr,h1];simp[fnz]
 ·obtain⟨h1,h2,h3,h4,h5⟩:=zr hi hb
  rw[zj,h5];cases h6:(l[i] !=0)
  ·have h7:l[i]=0:=by simpa using h6
   simp -implicitDefEqProofs only[go_sem,simprocAttr,h1,h2,h3,h4,h6,ih];simp[fnz,h7]
  ·have h7:l[i]≠0:=by simpa using h6
   simp -implicitDefEqProofs only[go_sem,simprocAttr,h1,h2,h3,h4,h6];simp[fnz,h7]
theorem va(b:Bool)(l:List Int)(hb:l.length<4611686018427387904):(zy T).call 114 [.sl b 1 (l.map fun n=> .int .i64 n)] [] 0 []=some (.int .i64 (fnz l),[],0,[]):=by
 rw[xhl];have h:=xbr b l hb 0 (by omega);rw[show((0:Nat):Int)=0 from rfl,List.drop_zero]at h;simp -implicitDefEqProofs only[go_sem,simprocAttr,h]
theorem xbt(b:Bool)(l:List Int)(hb:l.length<4611686018427387904):∀i,i≤l.length→(zy T).loop false [.code (.loop zkt),.inBlock 0,.code (.seq zm4 .ret)] ⟨108,19,0,[(0,.sl b 1 (l.map fun n=> .int .i64 n)),(3,.int .i64 i)],[],0,[]⟩=some (.ret (.int .i64 (fnz (l.drop i))),[],0,[]):=by
 refine xv l.length ?_ fun i hi ih=> ?_
 ·rw[zj]
  have h1:=xz l.length;simp -implicitDefEqProofs only[go_sem,simprocAttr,h1];simp[fnz]
 ·obtain⟨h1,h2,h3,h4,h5⟩:=zr hi hb
  rw[zj,h5];cases h6:(l[i] !=0)
  ·have h7:l[i]=0:=by simpa using h6
   simp -implicitDefEqProofs only[go_sem,simprocAttr,h1,h2,h3,h4,h6,ih];simp[fnz,h7]
  ·have h7:l[i]≠0:=by simpa using h6
   simp -implicitDefEqProofs only[go_sem,simprocAttr,h1,h2,h3,h4,h6];simp[fnz,h7]
theorem zpg(b:Bool)(l:List Int)(hb:l.length<4611686018427387904):(zy T).call 108 [.sl b 1 (l.map fun n=> .int .i64 n)] [] 0 []=some (.int .i64 (fnz l),[],0,[]):=by
 rw[xhq];have h:=xbt b l hb 0 (by omega);rw[show((0:Nat):Int)=0 from rfl,List.drop_zero]at h;simp -implicitDefEqProofs only[go_sem,simprocAttr,h]
theorem zjm(b:Bool)(x y:Int):(zy T).call 114 [.sl b 1 [.int .i64 x,.int .i64 y]] [] 0 []=some (.int .i64 (fnz [x,y]),[],0,[]):=va b [x,y] (by simp)
theorem za8(b:Bool)(x y z:Int):(zy T).call 114 [.sl b 1 [.int .i64 x,.int .i64 y,.int .i64 z]] [] 0 []=some (.int .i64 (fnz [x,y,z]),[],0,[]):=va b [x,y,z] (by simp)
theorem xl5(b:Bool)(x y z u:Int):(zy T).call 114 [.sl b 1 [.int .i64 x,.int .i64 y,.int .i64 z,.int .i64 u]] [] 0 []=some (.int .i64 (fnz [x,y,z,u]),[],0,[]):=va b [x,y,z,u] (by simp)
theorem zc6(b:Bool)(x y:Int):(zy T).call 108 [.sl b 1 [.int .i64 x,.int .i64 y]] [] 0 []=some (.int .i64 (fnz [x,y]),[],0,[]):=zpg b [x,y] (by simp)
theorem zjo(b:Bool)(x y z:Int):(zy T).call 108 [.sl b 1 [.int .i64 x,.int .i64 y,.int .i64 z]] [] 0 []=some (.int .i64 (fnz [x,y,z]),[],0,[]):=zpg b [x,y,z] (by simp)
theorem yqe(b:Bool)(x y z u v w:Int):(zy T).call 108 [.sl b 1 [.int .i64 x,.int .i64 y,.int .i64 z,.int .i64 u,.int .i64 v,.int .i64 w]] [] 0 []=some (.int .i64 (fnz [x,y,z,u,v,w]),[],0,[]):=zpg b [x,y,z,u,v,w] (by simp)
theorem zpf(n k:Int):(zy T).call 112 [.int .i64 n,.int .i64 k] [] 0 []=some (.int .i64 (fnz [cond (n==0) 12 0,cond (decide (k<n)) 5 0]),[],0,[]):=by
 rw[xhn];simp -implicitDefEqProofs only[go_sem,simprocAttr,qo,zjm]
def zx(n:Int):V:= .int .i64 n
attribute [go_sem] zx
theorem xw{l:List Int}:fnz l=0↔∀x∈l,x=0:=by
 induction l with
 |nil=>simp[fnz]
 |cons x l ih=>
  simp only[fnz];by_cases h:x=0
  ·simp[h,ih]
  ·simp[h]
def yj(n:Int):Int:=kq n 0 1000000
theorem zo2(n:Int):kq n 0 1000000=yj n:=rfl
theorem zjl(n:Int):(zy T).call 117 [.int .i64 n] [] 0 []=some (.int .i64 (yj n),[],0,[]):=by
 rw[xhj];simp -implicitDefEqProofs only[go_sem,simprocAttr,zpb,zo2]
theorem zjn(n:Int):(zy T).call 109 [.int .i64 n] [] 0 []=some (.int .i64 (yj n),[],0,[]):=by
 rw[xhp];simp -implicitDefEqProofs only[go_sem,simprocAttr,c90,zo2]
def jq(x:Int×Int):V:= .agg [.int .i64 x.1,.int .i64 x.2]
attribute [go_sem] jq
def ku(x:Int×Int):Int:=fnz [yj x.1,yj x.2,cond (decide (x.2<x.1)) 11 0]
theorem yph(x:Int×Int):fnz [yj x.1,yj x.2,cond (decide (x.2<x.1)) 11 0]=ku x:=rfl
theorem yp2(x:Int×Int):(zy T).call 146 [.agg [.int .i64 x.1,.int .i64 x.2]] [] 0 []=some (.int .i64 (ku x),[],0,[]):=by
 rw[xgz];simp -implicitDefEqProofs only[go_sem,simprocAttr,zjl,qo,za8,yph]
theorem ypr(x:Int×Int):(zy T).call 212 [.agg [.int .i64 x.1,.int .i64 x.2],.int .i64 0,.int .i64 1000000] [] 0 []=some (.int .i64 (ku x),[],0,[]):=by
 rw[xfz];simp -implicitDefEqProofs only[go_sem,simprocAttr,c90,zo2,ua,zjo,yph]
theorem xbd(b:Bool)(l:List (Int×Int))(hb:l.length<1000000):∀i,i≤l.length→∀o:Option (List (Int)),ka o=i→
  (zy T).loop false [.code (.loop zkk),.inBlock 0,.code (.seq zmt .ret)] ⟨145,22,0,[(1,.fn 146 []),(5,kp o 0),(8,.sl b 2 (l.map jq)),(9,.int .i64 l.length),(10,.int .i64 i)],kc zx o 29,0,[]⟩=
   some (.ret (vv zx 0 1 (qj o ((l.drop i).map (fun x=>ku x)))),[],0,[]):=by
 refine xv l.length ?_ fun i hi ih o ho=> ?_
 ·intro o ho
  rw[zj];have h1:=xz l.length;cases o with
  |none=>
   simp -implicitDefEqProofs only[go_sem,simprocAttr,h1];simp[qj,vv]
  |some a=>
   simp -implicitDefEqProofs only[go_sem,simprocAttr,h1];simp[qj,vv]
 ·obtain⟨h1,h2,h3,h4,h5⟩:=zr hi (by omega)
  rw[zj,h5];have ih':=ih (qj o [((fun x=>ku x) l[i])]) (by rw[jz,ho];rfl);rw[jx]at ih';dsimp only at ih';cases o with
  |none=>
   have h8:=ze (n:=0) (by omega);simp only[jy,zi,z6,List.map_cons,List.map_nil,zx]at ih';simp -implicitDefEqProofs only[go_sem,simprocAttr,h1,h2,h3,h4,ih',h8.2,yp2]
  |some a=>
   have h9:a.length=i:=ho;have h8:=(ze (n:=a.length) (by omega)).1;simp only[qd,zi,z6,List.map_append,List.map_cons,List.map_nil,zx]at ih';simp -implicitDefEqProofs only[go_sem,simprocAttr,h1,h2,h3,h4,ih',h8,yp2]
theorem yp3(b:Bool)(l:List (Int×Int))(hb:l.length<1000000):(zy T).call 145 [.sl b 2 (l.map jq),.fn 146 []] [] 0 []=some (wt 1 (((l).map (fun x=>ku x)).map zx),[],0,[]):=by
 rw[yod];have h:=xbd b l hb 0 (by omega) none rfl;rw[show((0:Nat):Int)=0 from rfl,List.drop_zero,ji]at h;simp only[xk,xu]at h;simp -implicitDefEqProofs only[go_sem,simprocAttr,h]
theorem xbq(b:Bool)(l:List (Int))(hb:l.length<1000000):∀i,i≤l.length→∀o:Option (List (Int)),ka o=i→
  (zy T).loop false [.code (.loop zgq),.inBlock 0,.code (.seq zh5 .ret)] ⟨116,22,0,[(1,.fn 117 []),(5,kp o 0),(8,.sl b 1 (l.map zx)),(9,.int .i64 l.length),(10,.int .i64 i)],kc zx o 29,0,[]⟩=
   some (.ret (vv zx 0 1 (qj o ((l.drop i).map (fun x=>yj x)))),[],0,[]):=by
 refine xv l.length ?_ fun i hi ih o ho=> ?_
 ·intro o ho
  rw[zj];have h1:=xz l.length;cases o with
  |none=>
   simp -implicitDefEqProofs only[go_sem,simprocAttr,h1];simp[qj,vv]
  |some a=>
   simp -implicitDefEqProofs only[go_sem,simprocAttr,h1];simp[qj,vv]
 ·obtain⟨h1,h2,h3,h4,h5⟩:=zr hi (by omega)
  rw[zj,h5];have ih':=ih (qj o [((fun x=>yj x) l[i])]) (by rw[jz,ho];rfl);rw[jx]at ih';dsimp only at ih';cases o with
  |none=>
   have h8:=ze (n:=0) (by omega);simp only[jy,zi,z6,List.map_cons,List.map_nil,zx]at ih';simp -implicitDefEqProofs only[go_sem,simprocAttr,h1,h2,h3,h4,ih',h8.2,zjl]
  |some a=>
   have h9:a.length=i:=ho;have h8:=(ze (n:=a.length) (by omega)).1;simp only[qd,zi,z6,List.map_append,List.map_cons,List.map_nil,zx]at ih';simp -implicitDefEqProofs only[go_sem,simprocAttr,h1,h2,h3,h4,ih',h8,zjl]
theorem zpe(b:Bool)(l:List (Int))(hb:l.length<1000000):(zy T).call 116 [.sl b 1 (l.map zx),.fn 117 []] [] 0 []=some (wt 1 (((l).map (fun x=>yj x)).map zx),[],0,[]):=by
 rw[yoh];have h:=xbq b l hb 0 (by omega) none rfl;rw[show((0:Nat):Int)=0 from rfl,List.drop_zero,ji]at h;simp only[xk,xu]at h;simp -implicitDefEqProofs only[go_sem,simprocAttr,h]
def qk(r:Int):Bool:=(decide (97≤r)&&decide (r≤122))||(decide (65≤r)&&decide (r≤90))
def qw(first:Bool)(r:Int):Bool:= !qk r&&(first||(r !=95&&(decide (r<48)||decide (57<r))))
def zaf:Bool→List UInt8→Bool
 |_,[]=>true
 |f,c::l=> !qw f c.toNat&&zaf false l
def w5(s:List UInt8):Bool:=zaf true s&&(!s.isEmpty&&decide (s.length≤24))
theorem yow{s:List UInt8}{p:Nat}(h:p<s.length)(hb:s[p].toNat<128):Utf8.decode ⟨s.toArray⟩ p=(s[p].toNat,1):=by
 have e:ByteArray.get! ⟨s.toArray⟩ (p+0)=s[p]:=by simp[ByteArray.get!,h]
 unfold Utf8.decode;simp only[e];rw[if_pos (by omega)]
theorem yox{s:List UInt8}{p:Nat}(h:p<s.length)(hb:¬s[p].toNat<128):∃r k,Utf8.decode ⟨s.toArray⟩ p=(r,k)∧128≤r:=by
 have e:ByteArray.get! ⟨s.toArray⟩ (p+0)=s[p]:=by simp[ByteArray.get!,h]
 unfold Utf8.decode;simp only[e];rw[if_neg (by omega)];have hR:128≤Utf8.runeError:=by decide
 repeat' split
 all_goals refine⟨_,_,rfl,?_⟩
 all_goals first|exact hR|(rename_i hc;simp at hc;omega)|(simp_all;omega)
theorem ype(r:Int)(h:97≤r∧r≤122):decide (97≤r)=true∧decide (r≤122)=true:=by
 refine⟨?_,?_⟩<;>simp<;>omega
theorem ypc(r:Int)(h:65≤r∧r≤90):decide (97≤r)=false∧decide (65≤r)=true∧decide (r≤90)=true:=by
 refine⟨?_,?_,?_⟩<;>simp<;>omega
theorem zje(r:Int)(h:123≤r):decide (97≤r)=true∧decide (r≤122)=false∧decide (65≤r)=true∧decide (r≤90)=false∧(r !=95)=true∧decide (r<48)=false∧decide (57<r)=true:=by
 refine⟨?_,?_,?_,?_,?_,?_,?_⟩<;>simp<;>omega
theorem ypb(r:Int)(h:91≤r∧r≤96∧r≠95):decide (97≤r)=false∧decide (65≤r)=true∧decide (r≤90)=false∧(r !=95)=true∧decide (r<48)=false∧decide (57<r)=true:=by
 refine⟨?_,?_,?_,?_,?_,?_⟩<;>simp<;>omega
theorem ypa(r:Int)(h:r=95):decide (97≤r)=false∧decide (65≤r)=true∧decide (r≤90)=false∧(r !=95)=false:=by
 refine⟨?_,?_,?_,?_⟩<;>simp<;>omega
theorem yo9(r:Int)(h:58≤r∧r≤64):decide (97≤r)=false∧decide (65≤r)=false∧(r !=95)=true∧decide (r<48)=false∧decide (57<r)=true:=by
 refine⟨?_,?_,?_,?_,?_⟩<;>simp<;>omega
theorem yo8(r:Int)(h:48≤r∧r≤57):decide (97≤r)=false∧decide (65≤r)=false∧(r !=95)=true∧decide (r<48)=false∧decide (57<r)=false:=by
 refine⟨?_,?_,?_,?_,?_⟩<;>simp<;>omega
theorem yo7(r:Int)(h:r<48):decide (97≤r)=false∧decide (65≤r)=false∧(r !=95)=true∧decide (r<48)=true:=by
 refine⟨?_,?_,?_,?_⟩<;>simp<;>omega
theorem ypd(r:Int):(97≤r∧r≤122)∨(65≤r∧r≤90)∨(123≤r)∨(91≤r∧r≤96∧r≠95)∨(r=95)∨(58≤r∧r≤64)∨(48≤r∧r≤57)∨(r<48):=by omega
def zg1(s:List UInt8)(p:Nat):Option Out:=
 (zy T).loop false [.code (.loop zj7),.inBlock 0,.code (.seq zmf .ret)] ⟨190,51,0,[(0,.str s),(7,.it 0)],[.siter s p],0,[]⟩
theorem xas(s:List UInt8)(hb:s.length<1000000):∀p,p≤s.length→zg1 s p=some (.ret (.bool (zaf ((p:Int)==0) (s.drop p)&&(!s.isEmpty&&decide (s.length≤24)))),[],0,[]):=by
 refine xv s.length ?_ fun p hp ih=> ?_
 ·unfold zg1
  rw[zj];have h1:decide (s.length<s.length)=false:=by simp
  cases h2:(s==([]:List UInt8))
  ·have h3:s.isEmpty=false:=by cases s with|nil=>cases h2|cons a b=>rfl
   have h4:decide ((s.length:Int)≤24)=decide (s.length≤24):=by simp;omega
   simp -implicitDefEqProofs only[go_sem,simprocAttr,h1,h2,h4,Bool.not_false];simp[zaf,h3]
  ·have h3:s= []:=by simpa using h2
   subst h3;simp -implicitDefEqProofs only[go_sem,simprocAttr]
 ·have h1:decide (p<s.length)=true:=decide_eq_true hp
  have h5:s.drop p=s[p]::s.drop (p+1):=List.drop_eq_getElem_cons hp;rw[h5];have h6:(((p+1:Nat):Int)==0)=false:=by simp;omega
  rw[h6]at ih;simp only[zaf];by_cases hlo:s[p].toNat<128
  ·have hd:=yow hp hlo
   unfold zg1 at ih⊢;rw[zj];generalize hr:((s[p].toNat:Nat):Int)=r at*;rcases ypd r with hc|hc|hc|hc|hc|hc|hc|hc
   ·obtain⟨qA,qB⟩:=ype r hc
    simp -implicitDefEqProofs only[go_sem,simprocAttr,h1,hd,hr,qA,qB,ih];simp[qw,qk,qA,qB]
   ·obtain⟨qA,qC,qD⟩:=ypc r hc
    simp -implicitDefEqProofs only[go_sem,simprocAttr,h1,hd,hr,qA,qC,qD,ih];simp[qw,qk,qA,qC,qD]
   ·obtain⟨qA,qB,qC,qD,qE,qF,qG⟩:=zje r hc
    cases hz:((p:Int)==0)
    ·simp -implicitDefEqProofs only[go_sem,simprocAttr,h1,hd,hr,qA,qB,qC,qD,qE,qF,qG,ih,hz]
     try simp[qw,qk,qA,qB,qC,qD,qE,qF,qG,hz]
    ·simp -implicitDefEqProofs only[go_sem,simprocAttr,h1,hd,hr,qA,qB,qC,qD,qE,qF,qG,ih,hz]
     try simp[qw,qk,qA,qB,qC,qD,qE,qF,qG,hz]
   ·obtain⟨qA,qC,qD,qE,qF,qG⟩:=ypb r hc
    cases hz:((p:Int)==0)
    ·simp -implicitDefEqProofs only[go_sem,simprocAttr,h1,hd,hr,qA,qC,qD,qE,qF,qG,ih,hz]
     try simp[qw,qk,qA,qC,qD,qE,qF,qG,hz]
    ·simp -implicitDefEqProofs only[go_sem,simprocAttr,h1,hd,hr,qA,qC,qD,qE,qF,qG,ih,hz]
     try simp[qw,qk,qA,qC,qD,qE,qF,qG,hz]
   ·obtain⟨qA,qC,qD,qE⟩:=ypa r hc
    cases hz:((p:Int)==0)
    ·simp -implicitDefEqProofs only[go_sem,simprocAttr,h1,hd,hr,qA,qC,qD,qE,ih,hz]
     try simp[qw,qk,qA,qC,qD,qE,hz]
    ·simp -implicitDefEqProofs only[go_sem,simprocAttr,h1,hd,hr,qA,qC,qD,qE,ih,hz]
     try simp[qw,qk,qA,qC,qD,qE,hz]
   ·obtain⟨qA,qC,qE,qF,qG⟩:=yo9 r hc
    cases hz:((p:Int)==0)
    ·simp -implicitDefEqProofs only[go_sem,simprocAttr,h1,hd,hr,qA,qC,qE,qF,qG,ih,hz]
     try simp[qw,qk,qA,qC,qE,qF,qG,hz]
    ·simp -implicitDefEqProofs only[go_sem,simprocAttr,h1,hd,hr,qA,qC,qE,qF,qG,ih,hz]
     try simp[qw,qk,qA,qC,qE,qF,qG,hz]
   ·obtain⟨qA,qC,qE,qF,qG⟩:=yo8 r hc
    cases hz:((p:Int)==0)
    ·simp -implicitDefEqProofs only[go_sem,simprocAttr,h1,hd,hr,qA,qC,qE,qF,qG,ih,hz]
     try simp[qw,qk,qA,qC,qE,qF,qG,hz]
    ·simp -implicitDefEqProofs only[go_sem,simprocAttr,h1,hd,hr,qA,qC,qE,qF,qG,ih,hz]
     try simp[qw,qk,qA,qC,qE,qF,qG,hz]
   ·obtain⟨qA,qC,qE,qF⟩:=yo7 r hc
    cases hz:((p:Int)==0)
    ·simp -implicitDefEqProofs only[go_sem,simprocAttr,h1,hd,hr,qA,qC,qE,qF,ih,hz]
     try simp[qw,qk,qA,qC,qE,qF,hz]
    ·simp -implicitDefEqProofs only[go_sem,simprocAttr,h1,hd,hr,qA,qC,qE,qF,ih,hz]
     try simp[qw,qk,qA,qC,qE,qF,hz]
  ·obtain⟨r0,k0,hd,hhi⟩:=yox hp hlo
   unfold zg1;rw[zj];obtain⟨qA,qB,qC,qD,qE,qF,qG⟩:=zje (r0:Int) (by omega);obtain⟨wA,wB,wC,wD,wE,wF,wG⟩:=zje (s[p].toNat:Int) (by omega);cases hz:((p:Int)==0)
   ·simp -implicitDefEqProofs only[go_sem,simprocAttr,h1,hd,qA,qB,qC,qD,qE,qF,qG,hz]
    simp[qw,qk,wA,wB,wC,wD,wE,wF,wG,hz]
   ·simp -implicitDefEqProofs only[go_sem,simprocAttr,h1,hd,qA,qB,qC,qD,qE,qF,qG,hz]
    simp[qw,qk,wA,wB,wC,wD,wE,wF,wG,hz]
theorem ypw(s:List UInt8)(hb:s.length<1000000):(zy T).call 190 [.str s] [] 0 []=some (.bool (w5 s),[],0,[]):=by
 rw[xgg];have h:=xas s hb 0 (by omega);rw[List.drop_zero]at h;unfold zg1 at h;simp -implicitDefEqProofs only[go_sem,simprocAttr,h];rfl
theorem xi0(r:Int)(h:97≤r∧r≤122):decide (65≤r)=true∧decide (r≤90)=false∧decide (97≤r)=true∧decide (r≤122)=true∧decide (48≤r)=true∧decide (r≤57)=false∧(r==95)=false:=by
 refine⟨?_,?_,?_,?_,?_,?_,?_⟩<;>simp<;>omega
theorem xiz(r:Int)(h:65≤r∧r≤90):decide (65≤r)=true∧decide (r≤90)=true∧decide (97≤r)=false∧decide (48≤r)=true∧decide (r≤57)=false∧(r==95)=false:=by
 refine⟨?_,?_,?_,?_,?_,?_⟩<;>simp<;>omega
theorem xiy(r:Int)(h:123≤r):decide (97≤r)=true∧decide (r≤122)=false∧decide (65≤r)=true∧decide (r≤90)=false∧decide (48≤r)=true∧decide (r≤57)=false∧(r==95)=false:=by
 refine⟨?_,?_,?_,?_,?_,?_,?_⟩<;>simp<;>omega
theorem xix(r:Int)(h:91≤r∧r≤96∧r≠95):decide (97≤r)=false∧decide (65≤r)=true∧decide (r≤90)=false∧decide (48≤r)=true∧decide (r≤57)=false∧(r==95)=false:=by
 refine⟨?_,?_,?_,?_,?_,?_⟩<;>simp<;>omega
theorem xiw(r:Int)(h:r=95):decide (97≤r)=false∧decide (65≤r)=true∧decide (r≤90)=false∧decide (48≤r)=true∧decide (r≤57)=false∧(r==95)=true:=by
 refine⟨?_,?_,?_,?_,?_,?_⟩<;>simp<;>omega
theorem xiv(r:Int)(h:58≤r∧r≤64):decide (97≤r)=false∧decide (65≤r)=false∧decide (48≤r)=true∧decide (r≤57)=false∧(r==95)=false:=by
 refine⟨?_,?_,?_,?_,?_⟩<;>simp<;>omega
theorem xiu(r:Int)(h:48≤r∧r≤57):decide (97≤r)=false∧decide (65≤r)=false∧decide (48≤r)=true∧decide (r≤57)=true∧(r==95)=false:=by
 refine⟨?_,?_,?_,?_,?_⟩<;>simp<;>omega
theorem xit(r:Int)(h:r<48):decide (97≤r)=false∧decide (65≤r)=false∧decide (48≤r)=false∧(r==95)=false:=by
 refine⟨?_,?_,?_,?_⟩<;>simp<;>omega
theorem xaf(s:List UInt8)(hb:s.length<1000000):∀i,i≤s.length→(zy T).loop false [.code (.loop zjz),.inBlock 0,.code (.seq zl5 .ret)] ⟨230,68,0,[(0,.str s),(3,.int .i64 i)],[],0,[]⟩=some (.ret (.bool (zaf ((i:Int)==0) (s.drop i))),[],0,[]):=by
 refine xv s.length ?_ fun p hp ih=> ?_
 ·rw[zj]
  have h1:=xz s.length;simp -implicitDefEqProofs only[go_sem,simprocAttr,h1];simp[zaf]
 ·obtain⟨h1,h2,h3,h4,h5⟩:=zr hp (by omega)
  rw[h5];have h6:(((p+1:Nat):Int)==0)=false:=by simp;omega
  rw[h6]at ih;have h7:decide (0≤(p:Int))=true:=decide_eq_true (by omega);simp only[zaf];rw[zj];generalize hr:((s[p].toNat:Nat):Int)=r at*;rcases ypd r with hc|hc|hc|hc|hc|hc|hc|hc
  ·obtain⟨qC,qD,qA,qB,qF,qG,qE⟩:=xi0 r hc
   obtain⟨wA,wB⟩:=ype r hc;simp -implicitDefEqProofs only[go_sem,simprocAttr,h1,h3,h4,h7,hr,qC,qD,qA,qB,qF,qG,qE,ih];simp[qw,qk,wA,wB]
  ·obtain⟨qC,qD,qA,qF,qG,qE⟩:=xiz r hc
   obtain⟨wA,wC,wD⟩:=ypc r hc;simp -implicitDefEqProofs only[go_sem,simprocAttr,h1,h3,h4,h7,hr,qC,qD,qA,qF,qG,qE,ih];simp[qw,qk,wA,wC,wD]
  ·obtain⟨qA,qB,qC,qD,qF,qG,qE⟩:=xiy r hc
   obtain⟨wA,wB,wC,wD,wE,wF,wG⟩:=zje r hc;cases hz:((p:Int)==0)
   ·simp -implicitDefEqProofs only[go_sem,simprocAttr,h1,h3,h4,h7,hr,qA,qB,qC,qD,qF,qG,qE,ih,hz]
    try simp[qw,qk,wA,wB,wC,wD,wE,wF,wG,hz]
   ·simp -implicitDefEqProofs only[go_sem,simprocAttr,h1,h3,h4,h7,hr,qA,qB,qC,qD,qF,qG,qE,ih,hz]
    try simp[qw,qk,wA,wB,wC,wD,wE,wF,wG,hz]
  ·obtain⟨qA,qC,qD,qF,qG,qE⟩:=xix r hc
   obtain⟨wA,wC,wD,wE,wF,wG⟩:=ypb r hc;cases hz:((p:Int)==0)
   ·simp -implicitDefEqProofs only[go_sem,simprocAttr,h1,h3,h4,h7,hr,qA,qC,qD,qF,qG,qE,ih,hz]
    try simp[qw,qk,wA,wC,wD,wE,wF,wG,hz]
   ·simp -implicitDefEqProofs only[go_sem,simprocAttr,h1,h3,h4,h7,hr,qA,qC,qD,qF,qG,qE,ih,hz]
    try simp[qw,qk,wA,wC,wD,wE,wF,wG,hz]
  ·obtain⟨qA,qC,qD,qF,qG,qE⟩:=xiw r hc
   obtain⟨wA,wC,wD,wE⟩:=ypa r hc;cases hz:((p:Int)==0)
   ·simp -implicitDefEqProofs only[go_sem,simprocAttr,h1,h3,h4,h7,hr,qA,qC,qD,qF,qG,qE,ih,hz]
    try simp[qw,qk,wA,wC,wD,wE,hz]
   ·simp -implicitDefEqProofs only[go_sem,simprocAttr,h1,h3,h4,h7,hr,qA,qC,qD,qF,qG,qE,ih,hz]
    try simp[qw,qk,wA,wC,wD,wE,hz]
  ·obtain⟨qA,qC,qF,qG,qE⟩:=xiv r hc
   obtain⟨wA,wC,wE,wF,wG⟩:=yo9 r hc;cases hz:((p:Int)==0)
   ·simp -implicitDefEqProofs only[go_sem,simprocAttr,h1,h3,h4,h7,hr,qA,qC,qF,qG,qE,ih,hz]
    try simp[qw,qk,wA,wC,wE,wF,wG,hz]
   ·simp -implicitDefEqProofs only[go_sem,simprocAttr,h1,h3,h4,h7,hr,qA,qC,qF,qG,qE,ih,hz]
    try simp[qw,qk,wA,wC,wE,wF,wG,hz]
  ·obtain⟨qA,qC,qF,qG,qE⟩:=xiu r hc
   obtain⟨wA,wC,wE,wF,wG⟩:=yo8 r hc;cases hz:((p:Int)==0)
   ·simp -implicitDefEqProofs only[go_sem,simprocAttr,h1,h3,h4,h7,hr,qA,qC,qF,qG,qE,ih,hz]
    try simp[qw,qk,wA,wC,wE,wF,wG,hz]
   ·simp -implicitDefEqProofs only[go_sem,simprocAttr,h1,h3,h4,h7,hr,qA,qC,qF,qG,qE,ih,hz]
    try simp[qw,qk,wA,wC,wE,wF,wG,hz]
  ·obtain⟨qA,qC,qF,qE⟩:=xit r hc
   obtain⟨wA,wC,wE,wF⟩:=yo7 r hc;cases hz:((p:Int)==0)
   ·simp -implicitDefEqProofs only[go_sem,simprocAttr,h1,h3,h4,h7,hr,qA,qC,qF,qE,ih,hz]
    try simp[qw,qk,wA,wC,wE,wF,hz]
   ·simp -implicitDefEqProofs only[go_sem,simprocAttr,h1,h3,h4,h7,hr,qA,qC,qF,qE,ih,hz]
    try simp[qw,qk,wA,wC,wE,wF,hz]
theorem c230(s:List UInt8)(hb:s.length<1000000):(zy T).call 230 [.str s] [] 0 []=some (.bool (w5 s),[],0,[]):=by
 rw[xfu];have h:=xaf s hb 0 (by omega);rw[show((0:Nat):Int)=0 from rfl,List.drop_zero]at h;unfold w5;cases h1:((s.length:Int)==0)
 ·have h3:s.isEmpty=false:=by cases s with|nil=>cases h1|cons a b=>rfl
  cases h2:decide (24<(s.length:Int))
  ·have h4:s.length≤24:=by simp at h2;omega
   simp -implicitDefEqProofs only[go_sem,simprocAttr,h1,h2,h];simp[h3,h4]
  ·have h4:¬s.length≤24:=by simp at h2;omega
   simp -implicitDefEqProofs only[go_sem,simprocAttr,h1,h2];simp[h3,h4]
 ·have h3:s= []:=by simp at h1;exact h1
  subst h3;simp -implicitDefEqProofs only[go_sem,simprocAttr]
  try rfl
theorem xk5(s:List UInt8)(hb:s.length<1000000):(zy T).call 188 [.str s] [] 0 []=some (.int .i64 (cond (!w5 s) 8 0),[],0,[]):=by
 rw[xgi];simp -implicitDefEqProofs only[go_sem,simprocAttr,c230 s hb,ua]
structure Cz where
 n:List UInt8
 c:Int
 b:Bool
 l:List (Int×Int)
def x8(c:Cz):V:= .agg [.str c.n,.int .i64 c.c,.sl c.b 2 (c.l.map jq)]
attribute [go_sem] x8
def k7(n k:Int):Int:=fnz [cond (n==0) 12 0,cond (decide (k<n)) 5 0]
theorem zdf(n k:Int):fnz [cond (n==0) 12 0,cond (decide (k<n)) 5 0]=k7 n k:=rfl
def u2(c:Cz):Int:=fnz [kq c.c 0 7,k7 c.l.length 8,fnz (c.l.map fun x=>ku x)]
theorem xjo(c:Cz):fnz [kq c.c 0 7,k7 c.l.length 8,fnz (c.l.map fun x=>ku x)]=u2 c:=rfl
theorem ypv(c:Cz)(hl:c.l.length<1000000):(zy T).call 191 [x8 c] [] 0 []=some (.int .i64 (u2 c),[],0,[]):=by
 rw[xgf];have e1:=yp3 c.b c.l hl;have e2:=fun b=>va b (c.l.map fun x=>ku x) (by simp;omega);have e3:List.map zx (List.map (fun x=>ku x) c.l)=List.map (fun n=>V.int .i64 n) (List.map (fun x=>ku x) c.l):=rfl;rw[e3]at e1;simp -implicitDefEqProofs only[go_sem,simprocAttr,e1,e2,zpb,zpf,zdf,za8,xjo]
theorem xbc(b:Bool)(l:List (Int×Int))(hb:l.length<4611686018427387904):∀i,i≤l.length→(zy T).loop false [.code (.loop zkj),.inBlock 0,.code (.seq zms .ret)] ⟨149,19,0,[(0,.sl b 2 (l.map jq)),(3,.int .i64 i)],[],0,[]⟩=some (.ret (.int .i64 (fnz ((l.drop i).map fun x=>ku x))),[],0,[]):=by
 refine xv l.length ?_ fun i hi ih=> ?_
 ·rw[zj]
  have h1:=xz l.length;simp -implicitDefEqProofs only[go_sem,simprocAttr,h1];simp[fnz]
 ·obtain⟨h1,h2,h3,h4,h5⟩:=zr hi (by omega)
  rw[zj,h5];cases h6:(ku l[i] !=0)
  ·have h7:ku l[i]=0:=by simpa using h6
   simp -implicitDefEqProofs only[go_sem,simprocAttr,h1,h2,h3,h4,h6,ih,ypr];simp[fnz,h7]
  ·have h7:ku l[i]≠0:=by simpa using h6
   simp -implicitDefEqProofs only[go_sem,simprocAttr,h1,h2,h3,h4,h6,ypr];simp[fnz,h7]
theorem xln(b:Bool)(l:List (Int×Int))(hb:l.length<4611686018427387904):(zy T).call 149 [.sl b 2 (l.map jq)] [] 0 []=some (.int .i64 (fnz (l.map fun x=>ku x)),[],0,[]):=by
 rw[xgw];have h:=xbc b l hb 0 (by omega);rw[show((0:Nat):Int)=0 from rfl,List.drop_zero]at h;simp -implicitDefEqProofs only[go_sem,simprocAttr,h]
def zaz{α:Type}(P:α→Bool):List α→Nat→Int
 | [],_=> -1
 |x::r,i=>cond (P x) (i:Int) (zaz P r (i+1))
theorem xde{α:Type}(P:α→Bool):∀(l:List α) (i:Nat),decide (0≤zaz P l i)=l.any P:=by
 intro l
 induction l with
 |nil=>intro i;rfl
 |cons x r ih=>
  intro i;simp only[zaz,List.any_cons];rw[←ih (i+1)];by_cases h:P x=true<;>simp[h]
theorem xat(b:Bool)(s:List UInt8)(l:List Cz)(hb:l.length<1000000):∀i,i≤l.length→(zy T).loop false [.code (.loop zj9),.inBlock 0,.code (.seq zmh .ret)] ⟨189,20,0,[(0,.sl b 3 (l.map x8)),(1,.str s),(5,.int .i64 i)],[],0,[]⟩=some (.ret (.int .i64 (zaz (fun a=>a.n==s) (l.drop i) i)),[],0,[]):=by
 refine xv l.length ?_ fun i hi ih=> ?_
 ·rw[zj]
  have h1:=xz l.length;simp -implicitDefEqProofs only[go_sem,simprocAttr,h1];simp[zaz]
 ·obtain⟨h1,h2,h3,h4,h5⟩:=zr hi (by omega)
  rw[zj,h5];cases h6:(l[i].n==s)
  ·simp -implicitDefEqProofs only[go_sem,simprocAttr,h1,h2,h3,h4,h6,ih]
   simp[zaz,h6]
  ·simp -implicitDefEqProofs only[go_sem,simprocAttr,h1,h2,h3,h4,h6]
   simp[zaz,h6]
theorem xk4(b:Bool)(s:List UInt8)(l:List Cz)(hb:l.length<1000000):(zy T).call 189 [.sl b 3 (l.map x8),.str s] [] 0 []=some (.int .i64 (zaz (fun a=>a.n==s) l 0),[],0,[]):=by
 rw[xgh];have h:=xat b s l hb 0 (by omega);rw[show((0:Nat):Int)=0 from rfl,List.drop_zero]at h;simp -implicitDefEqProofs only[go_sem,simprocAttr,h]
def qi(l:List Cz)(i:Nat)(c:Cz):Bool:=(l.take i).any fun a=>a.n==c.n
def uz(l:List Cz)(i:Nat)(c:Cz):Int:=fnz [cond (!w5 c.n) 8 0,cond (qi l i c) 9 0,u2 c]
theorem yo1(l:List Cz)(i:Nat)(c:Cz):fnz [cond (!w5 c.n) 8 0,cond (qi l i c) 9 0,u2 c]=uz l i c:=rfl
def q6(l:List Cz):Nat→List Cz→List Int
 |_,[]=> []
 |i,m::r=>uz l i m::q6 l (i+1) r
def xa(l:List Cz):Int:=if 8<l.length then 5 else fnz (q6 l 0 l)
theorem xd0(a b:List Int):fnz (a++b)=fnz (a++ [fnz b]):=by
 induction a with
 |nil=>
  simp only[List.nil_append,fnz];by_cases h:fnz b=0<;>simp[h]
 |cons x a ih=>simp only[List.cons_append,fnz,ih]
theorem xis(l:List Cz)(i:Nat)(c:Cz):fnz [cond (!w5 c.n) 8 0,cond (qi l i c) 9 0,kq c.c 0 7,cond ((c.l.length:Int)==0) 12 0,cond (decide (8<(c.l.length:Int))) 5 0,fnz (c.l.map fun x=>ku x)]=uz l i c:=by
 have h1:=xd0 [cond (!w5 c.n) 8 0,cond (qi l i c) 9 0] [kq c.c 0 7,cond ((c.l.length:Int)==0) 12 0,cond (decide (8<(c.l.length:Int))) 5 0,fnz (c.l.map fun x=>ku x)];simp only[List.cons_append,List.nil_append]at h1;rw[h1];unfold uz u2
 have h2:fnz [kq c.c 0 7,cond ((c.l.length:Int)==0) 12 0,cond (decide (8<(c.l.length:Int))) 5 0,fnz (c.l.map fun x=>ku x)]=fnz [kq c.c 0 7,k7 c.l.length 8,fnz (c.l.map fun x=>ku x)]:=by
  unfold k7;simp only[fnz];by_cases h:cond ((c.l.length:Int)==0) (12:Int) 0=0
  ·by_cases h':cond (decide (8<(c.l.length:Int))) (5:Int) 0=0
   ·simp[h,h']
   ·simp[h,h']
  ·simp[h]
 rw[h2]
def kvC(c:Cz):V×V:=(.str c.n,.bool true)
theorem yme{eq:V→V→Option Bool}{x y:V}:∀{es:List (V×V)},(∀e∈es,eq x e.1=some false)→mapSet eq es x y=some (es++ [(x,y)])
 | [],_=>rfl
 |(a,b)::r,h=>by
  have h1:=h (a,b) (List.mem_cons_self ..);dsimp only at h1;simp only[mapSet,h1,yme (es:=r) (fun e he=>h e (List.mem_cons_of_mem _ he)),List.cons_append]
theorem eq9(a b:List UInt8):eqT T 5 9 (.str a) (.str b)=some (a==b):=by
 simp -implicitDefEqProofs only[go_sem,simprocAttr]
theorem ymq(a:List UInt8):keyOk T 3 9 (.str a)=true:=by kernel_rfl
theorem zqq{l:List Cz}{i:Nat}(hi:i<l.length)(hd:qi l i l[i]=false):mapSet (eqT T 5 9) ((l.take i).map kvC) (.str l[i].n) (.bool true)=some ((l.take (i+1)).map kvC):=by
 rw[yme]
 ·rw[List.take_succ_eq_append_getElem hi,List.map_append];rfl
 ·intro e he
  obtain⟨m,hm,rfl⟩:=List.mem_map.1 he;unfold qi at hd;rw[List.any_eq_false]at hd;have:=hd m hm;simp only[kvC];rw[eq9,Bool.beq_comm];simpa using this
theorem ynb(l:List Cz)(s:List UInt8):mapGet (eqT T 5 9) (l.map kvC) (.str s)=some (cond (l.any fun a=>a.n==s) (some (.bool true)) none):=by
 induction l with
 |nil=>rfl
 |cons c l ih=>
  simp only[List.map_cons,kvC,mapGet,eq9,List.any_cons];rw[Bool.beq_comm];cases h:(c.n==s)
  ·simpa[kvC]using ih
  ·rfl
def zg3(b:Bool)(l:List Cz)(i:Nat):Option Out:=
 (zy T).loop false [.code (.loop zgp),.inBlock 0,.code (.seq zh4 .ret)] ⟨120,38,0,[(3,.map 0),(11,.sl b 3 (l.map x8)),(12,.int .i64 l.length),(13,.int .i64 i)],[.map ((l.take i).map kvC)],0,[]⟩
theorem xbn(b:Bool)(l:List Cz)(hb:l.length<1000000)(hn:∀c∈l,c.n.length<1000000∧c.l.length<1000000):∀i,i≤l.length→zg3 b l i=some (.ret (.int .i64 (fnz (q6 l i (l.drop i)))),[],0,[]):=by
 refine xv l.length ?_ fun i hi ih=> ?_
 ·unfold zg3
  rw[zj];have h1:=xz l.length;simp -implicitDefEqProofs only[go_sem,simprocAttr,h1];simp[fnz,q6]
 ·obtain⟨h1,h2,h3,h4,h5⟩:=zr hi (by omega)
  rw[h5];obtain⟨k1,k2⟩:=hn l[i] (List.getElem_mem hi);have e1:=ypw l[i].n k1;have e2:=ypv l[i] k2;have e3:=ynb (l.take i) l[i].n;have e4:=ymq l[i].n;have ef:=yo1 l i l[i];simp only[x8]at e2;have ed:qi l i l[i]=(l.take i).any fun a=>a.n==l[i].n:=rfl;rw[←ed]at e3;cases h6:(uz l i l[i] !=0)
  ·have h7:uz l i l[i]=0:=by simpa using h6
   have h8:qi l i l[i]=false:=by
    have:=xw.1 h7 (cond (qi l i l[i]) 9 0) (by simp);cases hd:qi l i l[i]with
    |false=>rfl
    |true=>rw[hd]at this;cases this
   have e5:=zqq hi h8;unfold zg3 at ih⊢;rw[zj];rw[h8]at e3 ef;simp only[cond_false]at ef e3;simp -implicitDefEqProofs only[go_sem,simprocAttr,h1,h2,h3,h4,e1,e2,e3,e4,qo,za8,ef,h6,e5,ih,cond_false];simp[fnz,q6,h7]
  ·have h7:uz l i l[i]≠0:=by simpa using h6
   unfold zg3;rw[zj];cases h8:qi l i l[i]
   ·rw[h8]at e3 ef
    simp only[cond_false]at ef e3;simp -implicitDefEqProofs only[go_sem,simprocAttr,h1,h2,h3,h4,e1,e2,e3,e4,qo,za8,ef,h6,cond_false];simp[fnz,q6,h7]
   ·rw[h8]at e3 ef
    simp only[cond_true]at ef e3;simp -implicitDefEqProofs only[go_sem,simprocAttr,h1,h2,h3,h4,e1,e2,e3,e4,qo,za8,ef,h6,cond_true];simp[fnz,q6,h7]
theorem xl2(b:Bool)(l:List Cz)(hb:l.length<1000000)(hn:∀c∈l,c.n.length<1000000∧c.l.length<1000000):(zy T).call 120 [.sl b 3 (l.map x8)] [] 0 []=some (.int .i64 (xa l),[],0,[]):=by
 rw[zoq];have h:=xbn b l hb hn 0 (by omega);rw[List.drop_zero]at h;unfold zg3 at h;rw[show((0:Nat):Int)=0 from rfl,List.take_zero,List.map_nil]at h;cases h1:decide (8<(l.length:Int))
 ·have h2:¬8<l.length:=by simp at h1;omega
  simp -implicitDefEqProofs only[go_sem,simprocAttr,h,h1];simp[xa,h2]
 ·have h2:8<l.length:=by simp at h1;omega
  simp -implicitDefEqProofs only[go_sem,simprocAttr,h1];simp[xa,h2]
theorem xbs(b:Bool)(l:List Cz)(hb:l.length<1000000)(hn:∀c∈l,c.n.length<1000000∧c.l.length<1000000):∀i,i≤l.length→(zy T).loop false [.code (.loop zks),.inBlock 0,.code (.seq zm3 .ret)] ⟨110,51,0,[(0,.sl b 3 (l.map x8)),(3,.int .i64 i)],[],0,[]⟩=some (.ret (.int .i64 (fnz (q6 l i (l.drop i)))),[],0,[]):=by
 refine xv l.length ?_ fun i hi ih=> ?_
 ·rw[zj]
  have h1:=xz l.length;simp -implicitDefEqProofs only[go_sem,simprocAttr,h1];simp[fnz,q6]
 ·obtain⟨h1,h2,h3,h4,h5⟩:=zr hi (by omega)
  rw[h5,zj];obtain⟨k1,k2⟩:=hn l[i] (List.getElem_mem hi);have e1:=xk5 l[i].n k1;have e2:=xln l[i].b l[i].l (by omega);have e3:=xk4 b l[i].n (l.take i) (by simp;omega);simp only[List.map_take]at e3;have e4:decide (0≤zaz (fun a:Cz=>a.n==l[i].n) (l.take i) 0)=qi l i l[i]:=xde _ _ 0;have ef:=xis l i l[i];have hle:i≤l.length:=by omega
  cases h6:(uz l i l[i] !=0)
  ·have h7:uz l i l[i]=0:=by simpa using h6
   simp -implicitDefEqProofs only[go_sem,simprocAttr,h1,h2,h3,h4,e1,e2,e3,e4,ua,c90,yqe,ef,h6,ih];simp[fnz,q6,h7,need,hle]
  ·have h7:uz l i l[i]≠0:=by simpa using h6
   simp -implicitDefEqProofs only[go_sem,simprocAttr,h1,h2,h3,h4,e1,e2,e3,e4,ua,c90,yqe,ef,h6];simp[fnz,q6,h7,need,hle]
theorem xl6(b:Bool)(l:List Cz)(hb:l.length<1000000)(hn:∀c∈l,c.n.length<1000000∧c.l.length<1000000):(zy T).call 110 [.sl b 3 (l.map x8)] [] 0 []=some (.int .i64 (xa l),[],0,[]):=by
 rw[xho];have h:=xbs b l hb hn 0 (by omega);rw[show((0:Nat):Int)=0 from rfl,List.drop_zero]at h;cases h1:decide (8<(l.length:Int))
 ·have h2:¬8<l.length:=by simp at h1;omega
  simp -implicitDefEqProofs only[go_sem,simprocAttr,h,h1];simp[xa,h2]
 ·have h2:8<l.length:=by simp at h1;omega
  simp -implicitDefEqProofs only[go_sem,simprocAttr,h1];simp[xa,h2]
def j0(r:Bool×List Int):V:= .sl r.1 1 (r.2.map zx)
structure Pk where
 vb:Bool
 v:List (Bool×List Int)
 n:Int
 cb:Bool
 c:List Cz
def zk(p:Pk):V:= .agg [.sl p.vb 1 (p.v.map j0),.int .i64 p.n,.sl p.cb 3 (p.c.map x8)]
attribute [go_sem] j0
def uy(s:Nat)(r:Bool×List Int):Int:=fnz [k7 r.2.length 8,cond ((r.2.length:Int) !=s) 2 0,fnz (r.2.map fun n=>yj n)]
theorem xjt(s:Nat)(r:Bool×List Int):fnz [k7 r.2.length 8,cond ((r.2.length:Int) !=s) 2 0,fnz (r.2.map fun n=>yj n)]=uy s r:=rfl
def uv(k s:Nat)(c:Cz):Int:=fnz [cond (decide ((k:Int)≤c.c)) 10 0,cond ((c.l.length:Int) !=s) 2 0]
theorem zo7(k s:Nat)(c:Cz):fnz [cond (decide ((k:Int)≤c.c)) 10 0,cond ((c.l.length:Int) !=s) 2 0]=uv k s c:=rfl
def Pk.fit(p:Pk):Prop:=p.v.length<1000∧(∀r∈p.v,r.2.length<1000)∧p.c.length<1000∧∀c∈p.c,c.n.length<1000000∧c.l.length<1000000
theorem zi3{p:Pk}{r0:Bool×List Int}(h:p.v[0]? =some r0):decide (0<(p.v.length:Int))=true:=by
 obtain⟨h,_⟩:=List.getElem?_eq_some_iff.1 h;exact decide_eq_true (by omega)
theorem yqd(p:Pk)(r0 r:Bool×List Int)(h0:p.v[0]? =some r0)(hr:r.2.length<1000000):(zy T).call 113 [.sl r.1 1 (r.2.map zx),.pp 3 [zk p] 0 0] [] 0 []=some (.int .i64 (uy r0.2.length r),[],0,[]):=by
 rw[xhm];have g:=zi3 h0;have e1:=zpe r.1 r.2 hr;have e2:=fun b=>va b (r.2.map fun n=>yj n) (by simp;omega);have e3:List.map zx (List.map (fun x=>yj x) r.2)=List.map (fun n=>V.int .i64 n) (List.map (fun x=>yj x) r.2):=rfl;rw[e3]at e1;simp -implicitDefEqProofs only[go_sem,simprocAttr,zk,h0,g,e1,e2,qo,zpf,zdf,za8,xjt]
theorem yqb(p:Pk)(r0:Bool×List Int)(c:Cz)(h0:p.v[0]? =some r0):(zy T).call 118 [.agg [.str c.n,.int .i64 c.c,.sl c.b 2 (c.l.map jq)],.pp 3 [zk p] 0 0] [] 0 []=some (.int .i64 (uv p.v.length r0.2.length c),[],0,[]):=by
 rw[xhi];have g:=zi3 h0;simp -implicitDefEqProofs only[go_sem,simprocAttr,zk,h0,g,qo,zjm,zo7]
theorem xbo(p:Pk)(r0:Bool×List Int)(h0:p.v[0]? =some r0)(b:Bool)(l:List (Bool×List Int))(hb:l.length<1000000)(hr:∀r∈l,r.2.length<1000000):∀i,i≤l.length→∀o:Option (List (Int)),ka o=i→
  (zy T).loop false [.code (.loop zkq),.inBlock 0,.code (.seq zm1 .ret)] ⟨119,22,0,[(1,.fn 113 [.pp 3 [zk p] 0 0]),(5,kp o 0),(8,.sl b 1 (l.map j0)),(9,.int .i64 l.length),(10,.int .i64 i)],kc zx o 29,0,[]⟩=
   some (.ret (vv zx 0 1 (qj o ((l.drop i).map (fun r=>uy r0.2.length r)))),[],0,[]):=by
 refine xv l.length ?_ fun i hi ih o ho=> ?_
 ·intro o ho
  rw[zj];have h1:=xz l.length;cases o with
  |none=>
   simp -implicitDefEqProofs only[go_sem,simprocAttr,h1];simp[qj,vv]
  |some a=>
   simp -implicitDefEqProofs only[go_sem,simprocAttr,h1];simp[qj,vv]
 ·obtain⟨h1,h2,h3,h4,h5⟩:=zr hi (by omega)
  rw[zj,h5];have ih':=ih (qj o [((fun r=>uy r0.2.length r) l[i])]) (by rw[jz,ho];rfl);rw[jx]at ih';dsimp only at ih';cases o with
  |none=>
   have h8:=ze (n:=0) (by omega);simp only[jy,zi,z6,List.map_cons,List.map_nil,zx]at ih';simp -implicitDefEqProofs only[go_sem,simprocAttr,h1,h2,h3,h4,ih',h8.2,yqd p r0 l[i] h0 (hr _ (List.getElem_mem hi))]
  |some a=>
   have h9:a.length=i:=ho;have h8:=(ze (n:=a.length) (by omega)).1;simp only[qd,zi,z6,List.map_append,List.map_cons,List.map_nil,zx]at ih';simp -implicitDefEqProofs only[go_sem,simprocAttr,h1,h2,h3,h4,ih',h8,yqd p r0 l[i] h0 (hr _ (List.getElem_mem hi))]
theorem xl3(p:Pk)(r0:Bool×List Int)(h0:p.v[0]? =some r0)(b:Bool)(l:List (Bool×List Int))(hb:l.length<1000000)(hr:∀r∈l,r.2.length<1000000):(zy T).call 119 [.sl b 1 (l.map j0),.fn 113 [.pp 3 [zk p] 0 0]] [] 0 []=some (wt 1 (((l).map (fun r=>uy r0.2.length r)).map zx),[],0,[]):=by
 rw[xhh];have h:=xbo p r0 h0 b l hb hr 0 (by omega) none rfl;rw[show((0:Nat):Int)=0 from rfl,List.drop_zero,ji]at h;simp only[xk,xu]at h;simp -implicitDefEqProofs only[go_sem,simprocAttr,h]
theorem xbm(p:Pk)(r0:Bool×List Int)(h0:p.v[0]? =some r0)(b:Bool)(l:List (Cz))(hb:l.length<1000000):∀i,i≤l.length→∀o:Option (List (Int)),ka o=i→
  (zy T).loop false [.code (.loop zkp),.inBlock 0,.code (.seq zm0 .ret)] ⟨121,22,0,[(1,.fn 118 [.pp 3 [zk p] 0 0]),(5,kp o 0),(8,.sl b 3 (l.map x8)),(9,.int .i64 l.length),(10,.int .i64 i)],kc zx o 29,0,[]⟩=
   some (.ret (vv zx 0 1 (qj o ((l.drop i).map (fun c=>uv p.v.length r0.2.length c)))),[],0,[]):=by
 refine xv l.length ?_ fun i hi ih o ho=> ?_
 ·intro o ho
  rw[zj];have h1:=xz l.length;cases o with
  |none=>
   simp -implicitDefEqProofs only[go_sem,simprocAttr,h1];simp[qj,vv]
  |some a=>
   simp -implicitDefEqProofs only[go_sem,simprocAttr,h1];simp[qj,vv]
 ·obtain⟨h1,h2,h3,h4,h5⟩:=zr hi (by omega)
  rw[zj,h5];have ih':=ih (qj o [((fun c=>uv p.v.length r0.2.length c) l[i])]) (by rw[jz,ho];rfl);rw[jx]at ih';dsimp only at ih';cases o with
  |none=>
   have h8:=ze (n:=0) (by omega);simp only[jy,zi,z6,List.map_cons,List.map_nil,zx]at ih';simp -implicitDefEqProofs only[go_sem,simprocAttr,h1,h2,h3,h4,ih',h8.2,yqb p r0 l[i] h0]
  |some a=>
   have h9:a.length=i:=ho;have h8:=(ze (n:=a.length) (by omega)).1;simp only[qd,zi,z6,List.map_append,List.map_cons,List.map_nil,zx]at ih';simp -implicitDefEqProofs only[go_sem,simprocAttr,h1,h2,h3,h4,ih',h8,yqb p r0 l[i] h0]
theorem xl1(p:Pk)(r0:Bool×List Int)(h0:p.v[0]? =some r0)(b:Bool)(l:List (Cz))(hb:l.length<1000000):(zy T).call 121 [.sl b 3 (l.map x8),.fn 118 [.pp 3 [zk p] 0 0]] [] 0 []=some (wt 1 (((l).map (fun c=>uv p.v.length r0.2.length c)).map zx),[],0,[]):=by
 rw[xhg];have h:=xbm p r0 h0 b l hb 0 (by omega) none rfl;rw[show((0:Nat):Int)=0 from rfl,List.drop_zero,ji]at h;simp only[xk,xu]at h;simp -implicitDefEqProofs only[go_sem,simprocAttr,h]
def xy(p:Pk):Int:=if k7 p.v.length 8=0 then fnz [fnz (p.v.map fun r=>uy ((p.v[0]?.getD (false,[])).2.length) r),yj p.n,xa p.c,fnz (p.c.map fun c=>uv p.v.length ((p.v[0]?.getD (false,[])).2.length) c)]else k7 p.v.length 8
theorem zev{n:Nat}(h:k7 n 8=0):0<n∧n≤8:=by
 unfold k7 at h;have h1:=xw.1 h (cond ((n:Int)==0) 12 0) (by simp);have h2:=xw.1 h (cond (decide (8<(n:Int))) 5 0) (by simp);constructor
 ·cases n with
  |zero=>cases h1
  |succ n=>omega
 ·by_cases hc:8<(n:Int)
  ·simp[hc]at h2
  ·omega
theorem c23(p:Pk)(hf:p.fit):(zy T).call 23 [zk p] [] 0 []=some (.int .i64 (xy p),[],0,[]):=by
 rw[xfv];obtain⟨f1,f2,f3,f4⟩:=hf;have e1:=zpf p.v.length 8;rw[zdf]at e1;unfold xy;cases h:(k7 p.v.length 8 !=0)
 ·have h0:k7 p.v.length 8=0:=by simpa using h
  rw[if_pos h0];obtain⟨k1,k2⟩:=zev h0;have hr0:p.v[0]? =some p.v[0]:=List.getElem?_eq_getElem k1;have e2:=xl3 p p.v[0] hr0 p.vb p.v (by omega) (fun r hr=>by have:=f2 r hr;omega);have e3:=xl1 p p.v[0] hr0 p.cb p.c (by omega);have e4:=xl2 p.cb p.c (by omega) f4;have e5:=fun b=>va b (p.v.map fun r=>uy p.v[0].2.length r) (by simp;omega);have e6:=fun b=>va b (p.c.map fun c=>uv p.v.length p.v[0].2.length c) (by simp;omega);have t1:List.map zx (List.map (fun r=>uy p.v[0].2.length r) p.v)=List.map (fun n=>V.int .i64 n) (List.map (fun r=>uy p.v[0].2.length r) p.v):=rfl;have t2:List.map zx (List.map (fun c=>uv p.v.length p.v[0].2.length c) p.c)=List.map (fun n=>V.int .i64 n) (List.map (fun c=>uv p.v.length p.v[0].2.length c) p.c):=rfl;rw[t1]at e2;rw[t2]at e3;rw[hr0];dsimp only[Option.getD_some];have e7:=xl5 true (fnz (p.v.map fun r=>uy p.v[0].2.length r)) (yj p.n) (xa p.c) (fnz (p.c.map fun c=>uv p.v.length p.v[0].2.length c));simp only[zk]at e2 e3;simp -implicitDefEqProofs only[go_sem,simprocAttr,zk,e1,h,e2,e3,e4,e5,e6,e7,zjl]
 ·have h0:¬k7 p.v.length 8=0:=by simpa using h
  rw[if_neg h0];simp -implicitDefEqProofs only[go_sem,simprocAttr,zk,e1,h]
def chQ(s:Nat)(r:Bool×List Int):Int:=fnz [cond ((r.2.length:Int)==0) 12 0,cond (decide (8<(r.2.length:Int))) 5 0,cond ((r.2.length:Int) !=s) 2 0]
theorem zo4(s:Nat)(r:Bool×List Int):fnz [cond ((r.2.length:Int)==0) 12 0,cond (decide (8<(r.2.length:Int))) 5 0,cond ((r.2.length:Int) !=s) 2 0]=chQ s r:=rfl
theorem xjs(s:Nat)(r:Bool×List Int):uy s r=if chQ s r=0 then fnz (r.2.map fun n=>yj n)else chQ s r:=by
 unfold uy chQ k7;simp only[fnz];by_cases h:cond ((r.2.length:Int)==0) (12:Int) 0=0
 ·by_cases h':cond (decide (8<(r.2.length:Int))) (5:Int) 0=0
  ·by_cases h'':cond ((r.2.length:Int) !=s) (2:Int) 0=0
   ·simp only[h,h',h'',if_true]
    by_cases h3:fnz (r.2.map fun n=>yj n)=0<;>simp[h3]
   ·simp[h,h',h'']
  ·simp[h,h']
 ·simp[h]
def gk(e:Int)(x:Option Out):Option Out:=if e=0 then x else some (.ret (.int .i64 e),[],0,[])
theorem yqi{a:Int}{l:List Int}{x:Option Out}(h:a=0):gk (fnz (a::l)) x=gk (fnz l) x:=by simp[gk,fnz,h]
theorem zpj{a:Int}{l:List Int}{x:Option Out}(h:¬a=0):gk (fnz (a::l)) x=some (.ret (.int .i64 a),[],0,[]):=by simp[gk,fnz,h]
def zdb(p:Pk)(s:Nat)(r:Bool×List Int)(i k:Nat):Option Out:=
 (zy T).loop false [.code (.loop zj3),.inBlock 2,.inBlock 1,.code zl9,.inLoop zgi,.inBlock 0,.code (.seq (.seq zhx (.seq zhw (.cond (.tmp 86) (.seq zhv .ret) .skip))) (.seq (.seq zhu (.block 4 (.loop zeh))) (.seq ze2 .ret)))]
  ⟨20,121,0,[(1,.ptr 0 0 0),(4,.int .i64 s),(5,.int .i64 i),(6,.sl r.1 1 (r.2.map zx)),(8,.int .i64 k)],[.cells true true 25 [zk p]],0,[]⟩
theorem xaj(p:Pk)(s:Nat)(r:Bool×List Int)(i:Nat)(hr:r.2.length<1000000):∀k,k≤r.2.length→zdb p s r i k=gk (fnz ((r.2.drop k).map fun n=>yj n)) (zdb p s r i r.2.length):=by
 refine xv r.2.length ?_ fun k hk ih=> ?_
 ·have h0:r.2.drop r.2.length= []:=by simp
  rw[h0];rfl
 ·obtain⟨h1,h2,h3,h4,h5⟩:=zr hk (by omega)
  rw[h5,List.map_cons]
  conv=>lhs;unfold zdb;rw[zj]
  cases h6:(yj r.2[k] !=0)
  ·have h7:yj r.2[k]=0:=by simpa using h6
   rw[yqi h7,←ih];unfold zdb;simp -implicitDefEqProofs only[go_sem,simprocAttr,zk,h1,h2,h3,h4,h6,zjn]
  ·have h7:¬yj r.2[k]=0:=by simpa using h6
   rw[zpj h7];simp -implicitDefEqProofs only[go_sem,simprocAttr,zk,h1,h2,h3,h4,h6,zjn]
def gh(p:Pk)(s:Nat)(i:Nat):Option Out:=
 (zy T).loop false [.code (.loop zgi),.inBlock 0,.code (.seq (.seq zhx (.seq zhw (.cond (.tmp 86) (.seq zhv .ret) .skip))) (.seq (.seq zhu (.block 4 (.loop zeh))) (.seq ze2 .ret)))]
  ⟨20,121,0,[(1,.ptr 0 0 0),(4,.int .i64 s),(5,.int .i64 i)],[.cells true true 25 [zk p]],0,[]⟩
theorem xam(p:Pk)(s:Nat)(hv:p.v.length<1000)(hr:∀r∈p.v,r.2.length<1000):∀i,i≤p.v.length→gh p s i=gk (fnz ((p.v.drop i).map fun r=>uy s r)) (gh p s p.v.length):=by
 refine xv p.v.length ?_ fun i hi ih=> ?_
 ·have h0:p.v.drop p.v.length= []:=by simp
  rw[h0];rfl
 ·obtain⟨h1,h2,h3,h4,h5⟩:=zr hi (by omega)
  rw[h5,List.map_cons];have hri:=hr _ (List.getElem_mem hi);have hI:=xaj p s p.v[i] i (by omega) 0 (by omega);rw[List.drop_zero]at hI;have hE:=xz p.v[i].2.length
  have fin:zdb p s p.v[i] i p.v[i].2.length=gh p s (i+1):=by
   unfold zdb gh;rw[zj];simp -implicitDefEqProofs only[go_sem,simprocAttr,zk,hE,h4]
  rw[fin]at hI
  conv at hI=>lhs;unfold zdb
  rw[show((0:Nat):Int)=0 from rfl]at hI;simp only[zk]at hI
  conv=>lhs;unfold gh;rw[zj]
  have hch:=xjs s p.v[i];cases h6:(chQ s p.v[i] !=0)
  ·have h7:chQ s p.v[i]=0:=by simpa using h6
   rw[if_pos h7]at hch;by_cases h8:fnz (p.v[i].2.map fun n=>yj n)=0
   ·rw[h8]at hch
    unfold gk at hI;rw[if_pos h8]at hI;rw[yqi hch,←ih]
    conv at hI=>rhs;unfold gh
    simp only[zk]at hI
    conv=>rhs;unfold gh
    simp -implicitDefEqProofs only[go_sem,simprocAttr,zk,h1,h2,h3,h4,ua,zjo,zo4,h6,hI]
   ·unfold gk at hI
    rw[if_neg h8,←hch]at hI;rw[←hch]at h8;rw[zpj h8];simp -implicitDefEqProofs only[go_sem,simprocAttr,zk,h1,h2,h3,h4,ua,zjo,zo4,h6,hI]
  ·have h7:¬chQ s p.v[i]=0:=by simpa using h6
   rw[if_neg h7]at hch;rw[←hch]at h7;rw[zpj h7,hch];simp -implicitDefEqProofs only[go_sem,simprocAttr,zk,h1,h2,h3,h4,ua,zjo,zo4,h6]
def zk3(p:Pk)(s:Nat)(i:Nat):Option Out:=
 (zy T).loop false [.code (.loop zeh),.inBlock 4,.code (.seq ze2 .ret)]
  ⟨20,121,0,[(1,.ptr 0 0 0),(4,.int .i64 s),(11,.int .i64 i)],[.cells true true 25 [zk p]],0,[]⟩
theorem xak(p:Pk)(s:Nat)(hc:p.c.length<1000):∀i,i≤p.c.length→zk3 p s i=some (.ret (.int .i64 (fnz ((p.c.drop i).map fun c=>uv p.v.length s c))),[],0,[]):=by
 refine xv p.c.length ?_ fun i hi ih=> ?_
 ·have h0:p.c.drop p.c.length= []:=by simp
  rw[h0];unfold zk3;rw[zj];have h1:=xz p.c.length;simp -implicitDefEqProofs only[go_sem,simprocAttr,zk,h1];simp[fnz]
 ·obtain⟨h1,h2,h3,h4,h5⟩:=zr hi (by omega)
  rw[h5,List.map_cons];simp only[fnz];unfold zk3 at ih⊢;simp only[zk]at ih;rw[zj];cases h6:(uv p.v.length s p.c[i] !=0)
  ·have h7:uv p.v.length s p.c[i]=0:=by simpa using h6
   rw[if_pos h7];simp -implicitDefEqProofs only[go_sem,simprocAttr,zk,h1,h2,h3,h4,ua,zc6,zo7,h6,ih]
  ·have h7:¬uv p.v.length s p.c[i]=0:=by simpa using h6
   rw[if_neg h7];simp -implicitDefEqProofs only[go_sem,simprocAttr,zk,h1,h2,h3,h4,ua,zc6,zo7,h6]
theorem xd1(a b c d:Int):fnz [a,b,c,d]=if a=0 then(if fnz [b,c]=0 then d else fnz [b,c])else a:=by
 simp only[fnz];by_cases h:a=0
 ·by_cases h':b=0
  ·by_cases h'':c=0
   ·by_cases h3:d=0<;>simp[h,h',h'',h3]
   ·simp[h,h',h'']
  ·simp[h,h']
 ·simp[h]
theorem c20(p:Pk)(hf:p.fit):(zy T).call 20 [zk p] [] 0 []=some (.int .i64 (xy p),[],0,[]):=by
 rw[xf8];obtain⟨f1,f2,f3,f4⟩:=hf;unfold xy;cases h:(k7 p.v.length 8 !=0)
 ·have h0:k7 p.v.length 8=0:=by simpa using h
  rw[if_pos h0];obtain⟨k1,k2⟩:=zev h0;have hr0:p.v[0]? =some p.v[0]:=List.getElem?_eq_getElem k1;have g:=zi3 hr0;rw[hr0];dsimp only[Option.getD_some];rw[xd1];have hL:=xam p p.v[0].2.length f1 f2 0 (by omega);rw[List.drop_zero]at hL;have hC:=xak p p.v[0].2.length f3 0 (by omega);rw[List.drop_zero]at hC;unfold zk3 at hC;rw[show((0:Nat):Int)=0 from rfl]at hC;simp only[zk]at hC;have e4:=xl6 p.cb p.c (by omega) f4;have hE:=xz p.v.length;by_cases h8:fnz (p.v.map fun r=>uy p.v[0].2.length r)=0
  ·unfold gk at hL
   rw[if_pos h8]at hL⊢
   have fin:gh p p.v[0].2.length p.v.length=some (.ret (.int .i64 (if fnz [yj p.n,xa p.c]=0 then fnz (p.c.map fun c=>uv p.v.length p.v[0].2.length c)else fnz [yj p.n,xa p.c])),[],0,[]):=by
    unfold gh;rw[zj];cases h9:(fnz [yj p.n,xa p.c] !=0)
    ·have h10:fnz [yj p.n,xa p.c]=0:=by simpa using h9
     rw[if_pos h10];simp -implicitDefEqProofs only[go_sem,simprocAttr,zk,hE,e4,zjn,zc6,h9,hC]
    ·have h10:¬fnz [yj p.n,xa p.c]=0:=by simpa using h9
     rw[if_neg h10];simp -implicitDefEqProofs only[go_sem,simprocAttr,zk,hE,e4,zjn,zc6,h9]
   rw[fin]at hL;unfold gh at hL;rw[show((0:Nat):Int)=0 from rfl]at hL;simp only[zk]at hL;simp -implicitDefEqProofs only[go_sem,simprocAttr,zk,ua,zc6,zdf,h,g,hr0,hL]
  ·unfold gk at hL
   rw[if_neg h8]at hL⊢;unfold gh at hL;rw[show((0:Nat):Int)=0 from rfl]at hL;simp only[zk]at hL;simp -implicitDefEqProofs only[go_sem,simprocAttr,zk,ua,zc6,zdf,h,g,hr0,hL]
 ·have h0:¬k7 p.v.length 8=0:=by simpa using h
  rw[if_neg h0];simp -implicitDefEqProofs only[go_sem,simprocAttr,zk,ua,zc6,zdf,h]
def zhg(c:Cz):Bool:= !(decide (40<(c.n.length:Int))||decide (9<(c.l.length:Int)))
def shC(l:List Cz):Bool:= !(decide (6<(l.length:Int))&&((l.length:Int) !=9))&&l.all zhg
theorem xbv(b:Bool)(l:List Cz)(hb:l.length<4611686018427387904):∀i,i≤l.length→(zy T).loop false [.code (.loop zkv),.inBlock 0,.code (.seq zm6 .ret)] ⟨101,34,0,[(0,.sl b 3 (l.map x8)),(3,.int .i64 i)],[],0,[]⟩=some (.ret (.bool ((l.drop i).all zhg)),[],0,[]):=by
 refine xv l.length ?_ fun i hi ih=> ?_
 ·rw[zj]
  have h1:=xz l.length;simp -implicitDefEqProofs only[go_sem,simprocAttr,h1]
  try simp
 ·obtain⟨h1,h2,h3,h4,h5⟩:=zr hi hb
  rw[zj,h5,List.all_cons];unfold zhg at ih⊢;cases h6:decide (40<(l[i].n.length:Int))
  ·cases h7:decide (9<(l[i].l.length:Int))
   ·simp -implicitDefEqProofs only[go_sem,simprocAttr,h1,h2,h3,h4,h6,h7,ih]
    try simp
   ·simp -implicitDefEqProofs only[go_sem,simprocAttr,h1,h2,h3,h4,h6,h7,ih]
    try simp
  ·simp -implicitDefEqProofs only[go_sem,simprocAttr,h1,h2,h3,h4,h6,ih]
   try simp
theorem xl9(b:Bool)(l:List Cz):(zy T).call 101 [.sl b 3 (l.map x8)] [] 0 []=some (.bool (shC l),[],0,[]):=by
 rw[xht];have h:=fun hb=>xbv b l hb 0 (by omega);rw[show((0:Nat):Int)=0 from rfl,List.drop_zero]at h;unfold shC;cases h1:decide (6<(l.length:Int))
 ·have h:=h (by simp at h1;omega)
  simp -implicitDefEqProofs only[go_sem,simprocAttr,h1,h]
  try simp
 ·cases h2:((l.length:Int) !=9)
  ·have h:=h (by simp at h2;omega)
   simp -implicitDefEqProofs only[go_sem,simprocAttr,h1,h2,h]
   try simp
  ·simp -implicitDefEqProofs only[go_sem,simprocAttr,h1,h2]
   try simp
def shR(r:Bool×List Int):Bool:= !decide (9<(r.2.length:Int))
def shP(p:Pk):Bool:= !(decide (9<(p.v.length:Int))|| !shC p.c)&&p.v.all shR
theorem xa4(p:Pk)(hb:p.v.length<4611686018427387904):∀i,i≤p.v.length→(zy T).loop false [.code (.loop zkg),.inBlock 0,.code (.seq zmp .ret)] ⟨15,28,0,[(1,.ptr 0 0 0),(3,.int .i64 i)],[.cells true true 25 [zk p]],0,[]⟩=some (.ret (.bool ((p.v.drop i).all shR)),[],0,[]):=by
 refine xv p.v.length ?_ fun i hi ih=> ?_
 ·rw[zj]
  have h1:=xz p.v.length;simp -implicitDefEqProofs only[go_sem,simprocAttr,zk,h1]
  try simp
 ·obtain⟨h1,h2,h3,h4,h5⟩:=zr hi hb
  rw[zj,h5,List.all_cons];unfold shR at ih⊢;simp only[zk]at ih;cases h6:decide (9<(p.v[i].2.length:Int))
  ·simp -implicitDefEqProofs only[go_sem,simprocAttr,zk,h1,h2,h3,h4,h6,ih]
   try simp
  ·simp -implicitDefEqProofs only[go_sem,simprocAttr,zk,h1,h2,h3,h4,h6,ih]
   try simp
theorem c15(p:Pk):(zy T).call 15 [zk p] [] 0 []=some (.bool (shP p),[],0,[]):=by
 rw[xgv];have h:=fun hb=>xa4 p hb 0 (by omega);rw[show((0:Nat):Int)=0 from rfl,List.drop_zero]at h;have e1:=xl9 p.cb p.c;unfold shP;cases h1:decide (9<(p.v.length:Int))
 ·have h:=h (by simp at h1;omega)
  simp only[zk]at h;cases h2:shC p.c
  ·rw[h2]at e1
   simp -implicitDefEqProofs only[go_sem,simprocAttr,zk,h1,e1]
   try simp
  ·rw[h2]at e1
   simp -implicitDefEqProofs only[go_sem,simprocAttr,zk,h1,e1,h]
   try simp
 ·simp -implicitDefEqProofs only[go_sem,simprocAttr,zk,h1]
  try simp
def qu(c:Cz):Cz:=⟨c.n,c.c,true,c.l⟩
theorem xa3(b:Bool)(l:List Cz)(hb:l.length<1000)(hl:∀c∈l,c.l.length<1000000):∀i,i≤l.length→∀o:Option (List Cz),ka o=i→
  (zy T).loop false [.code (.loop zkf),.inBlock 0,.code (.seq zmo .ret)] ⟨172,26,0,[(0,.sl b 3 (l.map x8)),(3,kp o 0),(4,.int .i64 i)],kc x8 o 140,0,[]⟩=
   some (.ret (vv x8 0 3 (qj o ((l.drop i).map qu))),[],0,[]):=by
 refine xv l.length ?_ fun i hi ih o ho=> ?_
 ·intro o ho
  rw[zj];have h1:=xz l.length;cases o with
  |none=>
   simp -implicitDefEqProofs only[go_sem,simprocAttr,h1];simp[qj,vv]
  |some a=>
   simp -implicitDefEqProofs only[go_sem,simprocAttr,h1];simp[qj,vv]
 ·obtain⟨h1,h2,h3,h4,h5⟩:=zr hi (by omega)
  rw[zj,h5];have ih':=ih (qj o [qu l[i]]) (by rw[jz,ho];rfl);rw[jx]at ih';have hli:=hl _ (List.getElem_mem hi);cases hx:l[i].l with
  |nil=>
   cases o with
   |none=>
    have h8:=ze (n:=0) (by omega);simp only[jy,zi,z6,List.map_cons,List.map_nil,x8,qu,hx]at ih';simp -implicitDefEqProofs only[go_sem,simprocAttr,h1,h2,h3,h4,hx,ih',h8.2,qu]
   |some a=>
    have h9:a.length=i:=ho;have h8:=(ze (n:=a.length) (by omega)).1;simp only[qd,zi,z6,List.map_append,List.map_cons,List.map_nil,x8,qu,hx]at ih';simp -implicitDefEqProofs only[go_sem,simprocAttr,h1,h2,h3,h4,hx,ih',h8,qu]
  |cons y r=>
   have h7:=(ze (n:=r.length) (by rw[hx]at hli;simp at hli;omega)).1;cases o with
   |none=>
    have h8:=ze (n:=0) (by omega);simp only[jy,zi,z6,List.map_cons,List.map_nil,x8,qu,hx,jq]at ih';simp -implicitDefEqProofs only[go_sem,simprocAttr,h1,h2,h3,h4,hx,ih',h8.2,h7,qu]
   |some a=>
    have h9:a.length=i:=ho;have h8:=(ze (n:=a.length) (by omega)).1;simp only[qd,zi,z6,List.map_append,List.map_cons,List.map_nil,x8,qu,hx,jq]at ih';simp -implicitDefEqProofs only[go_sem,simprocAttr,h1,h2,h3,h4,hx,ih',h8,h7,qu]
theorem xli(b:Bool)(l:List Cz)(hb:l.length<1000)(hl:∀c∈l,c.l.length<1000000):(zy T).call 172 [.sl b 3 (l.map x8)] [] 0 []=some (wt 3 ((l.map qu).map x8),[],0,[]):=by
 rw[xgu];have h:=xa3 b l hb hl 0 (by omega) none rfl;rw[show((0:Nat):Int)=0 from rfl,List.drop_zero,ji]at h;simp only[xk,xu]at h;simp -implicitDefEqProofs only[go_sem,simprocAttr,h]
def vy(r:Bool×List Int):Bool×List Int:=(true,r.2)
def L88(p:Pk)(o:Option (List (Bool×List Int)))(i:Nat):Option Out:=
 (zy T).loop false [.code (.loop zjv),.inBlock 0,.code (.seq zl2 (.seq zl1 .ret))]
  ⟨88,32,0,[(1,.ptr 0 0 0),(2,.ptr 1 0 0),(3,.ptr 2 0 0),(4,.int .i64 i)],.cells true true 25 [zk p]:: .cells true true 25 [.agg [.sl false 0 [],.int .i64 0,.sl false 0 []]]:: .cells true o.isNone 25 [.agg [kp o 3,.int .i64 p.n,.sl false 0 []]]::kc j0 o 28,0,[]⟩
def zia(p:Pk):V:= .agg [wt 1 ((p.v.map vy).map j0),.int .i64 p.n,.sl (!((p.c.map qu).map x8).isEmpty) 3 ((p.c.map qu).map x8)]
theorem yz5(p:Pk)(hf:p.fit):∀i,i≤p.v.length→∀o:Option (List (Bool×List Int)),ka o=i→
  L88 p o i=some (.ret (.agg [vv j0 0 1 (qj o ((p.v.drop i).map vy)),.int .i64 p.n,.sl (!((p.c.map qu).map x8).isEmpty) 3 ((p.c.map qu).map x8)]),[],0,[]):=by
 obtain⟨f1,f2,f3,f4⟩:=hf;have e1:=xli p.cb p.c f3 (fun c hc=>(f4 c hc).2);refine xv p.v.length ?_ fun i hi ih o ho=> ?_
 ·intro o ho
  unfold L88;rw[zj];have h1:=xz p.v.length;cases o with
  |none=>
   simp only[xk,xu,Option.isNone_none];simp -implicitDefEqProofs only[go_sem,simprocAttr,zk,h1,e1];simp[qj,vv]
  |some a=>
   simp only[zi,z6,Option.isNone_some];simp -implicitDefEqProofs only[go_sem,simprocAttr,zk,h1,e1];simp[qj,vv]
 ·obtain⟨h1,h2,h3,h4,h5⟩:=zr hi (by omega)
  rw[h5];have ih':=ih (qj o [vy p.v[i]]) (by rw[jz,ho];rfl);rw[jx]at ih';have hli:=f2 _ (List.getElem_mem hi);unfold L88 at ih'⊢;rw[zj];cases hx:p.v[i].2 with
  |nil=>
   cases o with
   |none=>
    have h8:=ze (n:=0) (by omega);simp only[jy,zi,z6,xk,xu,Option.isNone_some,Option.isNone_none,List.map_cons,List.map_nil,j0,vy,hx,zk]at ih'⊢;simp -implicitDefEqProofs only[go_sem,simprocAttr,zk,h1,h2,h3,h4,hx,ih',h8.2]
   |some a=>
    have h9:a.length=i:=ho;have h8:=(ze (n:=a.length) (by omega)).1;simp only[qd,zi,z6,Option.isNone_some,List.map_append,List.map_cons,List.map_nil,j0,vy,hx,zk]at ih'⊢;simp -implicitDefEqProofs only[go_sem,simprocAttr,zk,h1,h2,h3,h4,hx,ih',h8]
  |cons y r=>
   have h7:=(ze (n:=r.length) (by rw[hx]at hli;simp at hli;omega)).1;cases o with
   |none=>
    have h8:=ze (n:=0) (by omega);simp only[jy,zi,z6,xk,xu,Option.isNone_some,Option.isNone_none,List.map_cons,List.map_nil,j0,vy,hx,zk,zx]at ih'⊢;simp -implicitDefEqProofs only[go_sem,simprocAttr,zk,h1,h2,h3,h4,hx,ih',h8.2,h7]
   |some a=>
    have h9:a.length=i:=ho;have h8:=(ze (n:=a.length) (by omega)).1;simp only[qd,zi,z6,Option.isNone_some,List.map_append,List.map_cons,List.map_nil,j0,vy,hx,zk,zx]at ih'⊢;simp -implicitDefEqProofs only[go_sem,simprocAttr,zk,h1,h2,h3,h4,hx,ih',h8,h7]
theorem c88(p:Pk)(hf:p.fit):(zy T).call 88 [zk p] [] 0 []=some (zia p,[],0,[]):=by
 rw[xff];have h:=yz5 p hf 0 (by omega) none rfl;rw[List.drop_zero,ji]at h;unfold L88 at h;rw[show((0:Nat):Int)=0 from rfl]at h;simp only[xk,xu,Option.isNone_none,zk]at h;unfold zia;simp -implicitDefEqProofs only[go_sem,simprocAttr,zk,h]
def L18(vb:Bool)(vs:List V)(n:Int)(b:Bool)(l:List Cz)(o:Option (List Cz))(i:Nat):Option Out:=
 (zy T).loop false [.code (.loop zj8),.inBlock 0,.code (.seq zmg .ret)]
  ⟨18,28,0,[(2,.ptr 0 0 0),(3,.ptr 1 0 0),(14,.sl b 3 (l.map x8)),(15,.int .i64 l.length),(16,.int .i64 i)],.cells true true 34 [.agg [.sl false 0 [],.int .i64 0,.sl false 0 []]]:: .cells true o.isNone 34 [.agg [.sl vb 1 vs,.int .i64 n,kp o 2]]::kc x8 o 180,0,[]⟩
theorem xaz(vb:Bool)(vs:List V)(n:Int)(b:Bool)(l:List Cz)(hb:l.length<1000):∀i,i≤l.length→∀o:Option (List Cz),ka o=i→
  L18 vb vs n b l o i=some (.ret (.agg [.sl vb 1 vs,.int .i64 n,vv x8 0 3 (qj o (l.drop i))]),[],0,[]):=by
 refine xv l.length ?_ fun i hi ih o ho=> ?_
 ·intro o ho
  unfold L18;rw[zj];have h1:=xz l.length;cases o with
  |none=>
   simp only[xk,xu,Option.isNone_none];simp -implicitDefEqProofs only[go_sem,simprocAttr,h1];simp[qj,vv]
  |some a=>
   simp only[zi,z6,Option.isNone_some];simp -implicitDefEqProofs only[go_sem,simprocAttr,h1];simp[qj,vv]
 ·obtain⟨h1,h2,h3,h4,h5⟩:=zr hi (by omega)
  rw[h5];have ih':=ih (qj o [l[i]]) (by rw[jz,ho];rfl);rw[jx]at ih';unfold L18 at ih'⊢;rw[zj];cases o with
  |none=>
   have h8:=ze (n:=0) (by omega);simp only[jy,zi,z6,xk,xu,Option.isNone_some,Option.isNone_none,List.map_cons,List.map_nil,x8]at ih'⊢;simp -implicitDefEqProofs only[go_sem,simprocAttr,h1,h2,h3,h4,ih',h8.2]
  |some a=>
   have h9:a.length=i:=ho;have h8:=(ze (n:=a.length) (by omega)).1;simp only[qd,zi,z6,Option.isNone_some,List.map_append,List.map_cons,List.map_nil,x8]at ih'⊢;simp -implicitDefEqProofs only[go_sem,simprocAttr,h1,h2,h3,h4,ih',h8]
def zp(p:Pk):Pk:=⟨!((p.v.map vy).map j0).isEmpty,p.v.map vy,p.n,!((p.c.map qu).map x8).isEmpty,p.c.map qu⟩
theorem c18(p:Pk)(hf:p.fit):(zy T).call 18 [zk p] [] 0 []=some (.agg [.sl (!((p.v.map vy).map j0).isEmpty) 1 ((p.v.map vy).map j0),.int .i64 p.n,wt 3 ((p.c.map qu).map x8)],[],0,[]):=by
 rw[xgp];have e1:=c88 p hf;unfold zia at e1;have h:=xaz (!((p.v.map vy).map j0).isEmpty) ((p.v.map vy).map j0) p.n (!((p.c.map qu).map x8).isEmpty) (p.c.map qu) (by simp;exact hf.2.2.1) 0 (by omega) none rfl;rw[List.drop_zero,ji]at h;unfold L18 at h;rw[show((0:Nat):Int)=0 from rfl]at h;simp only[xk,xu,Option.isNone_none,List.length_map]at h;simp only[zk]at e1;simp -implicitDefEqProofs only[go_sem,simprocAttr,zk,e1,h]
theorem wy{p:Pk}(hf:p.fit):(zp p).fit:=by
 obtain⟨f1,f2,f3,f4⟩:=hf;refine⟨by simpa[zp]using f1,fun r hr=> ?_,by simpa[zp]using f3,fun c hc=> ?_⟩
 ·simp only[zp]at hr
  obtain⟨q,hq,rfl⟩:=List.mem_map.1 hr;exact f2 q hq
 ·simp only[zp]at hc
  obtain⟨q,hq,rfl⟩:=List.mem_map.1 hc;exact f4 q hq
theorem ypg(p:Pk):xy (zp p)=xy p:=by
 have h1:∀r:Bool×List Int,∀s,uy s (vy r)=uy s r:=fun r s=>rfl;have h2:∀c:Cz,∀k s,uv k s (qu c)=uv k s c:=fun c k s=>rfl
 have h3:∀(l r:List Cz) (i:Nat),q6 (l.map qu) i (r.map qu)=q6 l i r:=by
  intro l r
  induction r with
  |nil=>intro i;rfl
  |cons c r ih=>
   intro i;simp only[List.map_cons,q6,ih]
   have:uz (l.map qu) i (qu c)=uz l i c:=by
    unfold uz
    have:qi (l.map qu) i (qu c)=qi l i c:=by
     unfold qi;rw[←List.map_take,List.any_map];rfl
    rw[this];rfl
   rw[this]
 have h4:xa (p.c.map qu)=xa p.c:=by
  unfold xa;rw[List.length_map,h3]
 have h5:((p.v.map vy)[0]?.getD (false,[])).2.length=(p.v[0]?.getD (false,[])).2.length:=by
  rw[List.getElem?_map];cases p.v[0]? <;>rfl
 unfold xy;simp only[zp,List.length_map,List.map_map,h4];rw[h5];rfl
end Go.Den.FaT
namespace Go.Proofs.YtifljcjddphpjaaGreatDoor
open Go Go.Proofs Go.Den Go.Den.FaT Go.ChangeShapes Go.WideShapes Go.ChangeAt Go.RowKit
theorem mapOf{α:Type}{f:α→V}{e:TypeId}{n:Nat}(hc:∀{us},Cl Tryz.prog n e us→∃a,mk Tryz.prog e us=f a):∀{l:List V},(∀u∈l,∃us,Cl Tryz.prog n e us∧u=mk Tryz.prog e us)→∃ps:List α,l=ps.map f
 | [],_=>⟨[],rfl⟩
 |u::l,h=>by
  obtain⟨ps,rfl⟩:=mapOf hc (l:=l) fun v hv=>h v (List.mem_cons_of_mem _ hv);obtain⟨us,h1,rfl⟩:=h u (List.mem_cons_self);obtain⟨a,ha⟩:=hc h1;exact⟨a::ps,by rw[ha];rfl⟩
theorem mk3(v:V):mk Tryz.prog 3 [v]=v:=by unfold mk;rw[Tryz.underlying3];rfl
theorem mk28(v:V):mk Tryz.prog 28 [v]=v:=by unfold mk;rw[Tryz.underlying28];rfl
theorem yy6(us:List V):mk Tryz.prog 142 us= .agg us:=by unfold mk;rw[Tryz.underlying142]
theorem yy7(us:List V):mk Tryz.prog 140 us= .agg us:=by unfold mk;rw[Tryz.underlying140]
theorem mk25(us:List V):mk Tryz.prog 25 us= .agg us:=by unfold mk;rw[Tryz.underlying25]
theorem xja{n:Nat}{us:List V}(h:Cl Tryz.prog n 3 us):∃a,mk Tryz.prog 3 us=zx a:=by
 obtain⟨i,rfl,_⟩:=cl3 h;exact⟨i,mk3 _⟩
theorem xjc{n:Nat}{vs:List V}(h:Cl Tryz.prog n 28 vs):∃b,∃l:List Int,vs= [.sl b 1 (l.map zx)]:=by
 cases n with
 |zero=>cases h
 |succ n=>
  unfold Cl at h;rw[Tryz.underlying28]at h;obtain⟨b,l,rfl,_,_,hl⟩:=h;obtain⟨ps,rfl⟩:=mapOf xja hl;have:Tryz.prog.cellsOf 3=1:=by kernel_rfl
  exact⟨b,ps,by rw[this]⟩
theorem xjb{n:Nat}{us:List V}(h:Cl Tryz.prog n 28 us):∃a,mk Tryz.prog 28 us=j0 a:=by
 obtain⟨b,l,rfl⟩:=xjc h;exact⟨(b,l),mk28 _⟩
theorem xjf{n:Nat}{vs:List V}(h:Cl Tryz.prog n 22 vs):∃b,∃l:List (Bool×List Int),vs= [.sl b 1 (l.map j0)]:=by
 cases n with
 |zero=>cases h
 |succ n=>
  unfold Cl at h;rw[Tryz.underlying22]at h;obtain⟨b,l,rfl,_,_,hl⟩:=h;obtain⟨ps,rfl⟩:=mapOf xjb hl;have:Tryz.prog.cellsOf 28=1:=by kernel_rfl
  exact⟨b,ps,by rw[this]⟩
theorem xjh{n:Nat}{us:List V}(h:Cl Tryz.prog n 142 us):∃a,mk Tryz.prog 142 us=jq a:=by
 cases n with
 |zero=>cases h
 |succ n=>
  unfold Cl at h;rw[Tryz.underlying142]at h;obtain⟨ps,rfl,hl,hp⟩:=h
  match ps,hl with
  | [p,q],_=>
   obtain⟨x,rfl,_⟩:=cl3 (hp 0 _ p rfl rfl);obtain⟨y,rfl,_⟩:=cl3 (hp 1 _ q rfl rfl);exact⟨(x,y),by rw[yy6];rfl⟩
theorem xi9{n:Nat}{vs:List V}(h:Cl Tryz.prog n 72 vs):∃b,∃l:List (Int×Int),vs= [.sl b 2 (l.map jq)]:=by
 cases n with
 |zero=>cases h
 |succ n=>
  unfold Cl at h;rw[Tryz.underlying72]at h;obtain⟨b,l,rfl,_,_,hl⟩:=h;obtain⟨ps,rfl⟩:=mapOf xjh hl;have:Tryz.prog.cellsOf 142=2:=by kernel_rfl
  exact⟨b,ps,by rw[this]⟩
theorem cl9{n:Nat}{vs:List V}(h:Cl Tryz.prog n 9 vs):∃s:List UInt8,vs= [.str s]:=by
 cases n with
 |zero=>cases h
 |succ n=>unfold Cl at h;rw[Tryz.underlying9]at h;obtain⟨s,h,_⟩:=h;exact⟨s,h⟩
theorem xji{n:Nat}{us:List V}(h:Cl Tryz.prog n 140 us):∃a,mk Tryz.prog 140 us=x8 a:=by
 cases n with
 |zero=>cases h
 |succ n=>
  unfold Cl at h;rw[Tryz.underlying140]at h;obtain⟨ps,rfl,hl,hp⟩:=h
  match ps,hl with
  | [p,q,r],_=>
   obtain⟨s,rfl⟩:=cl9 (hp 0 _ p rfl rfl);obtain⟨c,rfl,_⟩:=cl3 (hp 1 _ q rfl rfl);obtain⟨b,l,rfl⟩:=xi9 (hp 2 _ r rfl rfl);exact⟨⟨s,c,b,l⟩,by rw[yy7];rfl⟩
theorem xje{n:Nat}{vs:List V}(h:Cl Tryz.prog n 23 vs):∃b,∃l:List Cz,vs= [.sl b 3 (l.map x8)]:=by
 cases n with
 |zero=>cases h
 |succ n=>
  unfold Cl at h;rw[Tryz.underlying23]at h;obtain⟨b,l,rfl,_,_,hl⟩:=h;obtain⟨ps,rfl⟩:=mapOf xji hl;have:Tryz.prog.cellsOf 140=3:=by kernel_rfl
  exact⟨b,ps,by rw[this]⟩
theorem xjd{n:Nat}{us:List V}(h:Cl Tryz.prog n 25 us):∃p:Pk,mk Tryz.prog 25 us=zk p:=by
 cases n with
 |zero=>cases h
 |succ n=>
  unfold Cl at h;rw[Tryz.underlying25]at h;obtain⟨ps,rfl,hl,hp⟩:=h
  match ps,hl with
  | [p,q,r],_=>
   obtain⟨vb,v,rfl⟩:=xjf (hp 0 _ p rfl rfl);obtain⟨n,rfl,_⟩:=cl3 (hp 1 _ q rfl rfl);obtain⟨cb,c,rfl⟩:=xje (hp 2 _ r rfl rfl);exact⟨⟨vb,v,n,cb,c⟩,by rw[mk25];rfl⟩
end Go.Proofs.YtifljcjddphpjaaGreatDoor
namespace Go.Den.FaT
open Go Go.Proofs Go.Den
def vc(b:Bool)(z:Nat)(ws:List V)(bad:Bool):V:= .agg [.sl b z ws,.bool bad]
theorem xlc(b:Bool)(z:Nat)(bad:Bool)(S:xc):(zy T).call 179 [.ptr 0 0 0] [.cells true true 267 [vc b z [] bad]] 0 S=some (.str [],[.cells true true 267 [vc false 0 [] true]],0,S):=by
 rw[zon];simp -implicitDefEqProofs only[go_sem,simprocAttr,vc]
theorem zqc(n:Nat):(((n+1:Nat):Int)==0)=false:=by rw[beq_eq_false_iff_ne];omega
theorem zqb(n:Nat):decide (0<((n+1:Nat):Int))=true:=by rw[decide_eq_true_iff];omega
theorem xlb(b:Bool)(ws:List V)(bad:Bool)(S:xc):(zy T).call 179 [.ptr 0 0 0] [.cells true true 267 [vc b 1 (.str []::ws) bad]] 0 S=some (.str [],[.cells true true 267 [vc false 0 [] true]],0,S):=by
 rw[zon];have h0:=zqc ws.length;have h1:=zqb ws.length;simp -implicitDefEqProofs only[go_sem,simprocAttr,vc,h0,h1]
theorem xla(b:Bool)(c:UInt8)(w:List UInt8)(ws:List V)(hp:pureL ws=true)(hb:ws.length<1000000)(bad:Bool)(S:xc):(zy T).call 179 [.ptr 0 0 0] [.cells true true 267 [vc b 1 (.str (c::w)::ws) bad]] 0 S=some (.str (c::w),[.cells true true 267 [vc b 1 ws bad]],0,S):=by
 rw[zon];have h0:=zqc ws.length;have h1:=zqb ws.length;have h2:(c::w== [])=false:=rfl;have h3:decide (ws.length≤ws.length)=true:=by simp
 have h4:ws.take ws.length=ws:=List.take_length;simp -implicitDefEqProofs only[go_sem,simprocAttr,vc,h0,h1,h2,h3,h4]
structure Tk where
 b:Bool
 z:Nat
 ws:List (List UInt8)
 bad:Bool
def Tk.ok(t:Tk):Prop:=(t.ws≠ []→t.z=1)∧t.ws.length<1000000
def xh(t:Tk):Row:= .cells true true 267 [vc t.b t.z (t.ws.map .str) t.bad]
def wordF(t:Tk):List UInt8×Tk:=match t.ws with
 | []=>([],⟨false,0,[],true⟩)
 | []::_=>([],⟨false,0,[],true⟩)
 |w::r=>(w,⟨t.b,t.z,r,t.bad⟩)
theorem zm9(l:List (List UInt8)):pureL (l.map V.str)=true:=by
 rw[pureL_iff];intro v hv;obtain⟨s,_,rfl⟩:=List.mem_map.1 hv;rfl
theorem zf9(t:Tk)(h:t.ok)(S:xc):(zy T).call 179 [.ptr 0 0 0] [xh t] 0 S=some (.str (wordF t).1,[xh (wordF t).2],0,S):=by
 obtain⟨b,z,ws,bad⟩:=t;obtain⟨h1,h2⟩:=h
 match ws,h1,h2 with
 | [],_,_=>exact xlc b z bad S
 | []::r,h1,_=>cases h1 (by simp);exact xlb b _ bad S
 |(c::w)::r,h1,h2=>cases h1 (by simp);exact xla b c w _ (zm9 r) (by simp at h2⊢;omega) bad S
theorem zp5{t:Tk}(h:t.ok):(wordF t).2.ok:=by
 obtain⟨b,z,ws,bad⟩:=t;obtain⟨h1,h2⟩:=h
 match ws,h1,h2 with
 | [],_,_=>exact⟨fun h=>absurd rfl h,by simp[wordF]⟩
 | []::r,_,_=>exact⟨fun h=>absurd rfl h,by simp[wordF]⟩
 |(c::w)::r,h1,h2=>exact⟨fun _=>h1 (by simp),by simp[wordF]at h2⊢;omega⟩
def zca(t:Tk)(s:List UInt8)(p:Nat)(n:Int)(S:xc):Option Out:=
 (zy T).loop false [.code (.loop zkd),.inBlock 0,.code (.seq zmm (.seq zml .ret))] ⟨180,52,1,[(0,.ptr 0 0 0),(3,.str s),(4,.int .i64 n),(10,.it 1)],[xh t,.siter s p],0,S⟩
def zfx(c:UInt8):Bool:=decide (48≤c.toNat)&&decide (c.toNat≤57)
def ja(big:Bool):Nat→List UInt8→Option Nat
 |n,[]=>some n
 |n,c::r=>cond (zfx c&& !big) (ja big (10*n+(c.toNat- 48)) r) none
def we:List UInt8→Bool
 |a::_::_=>a==48
 |_=>false
def yr(t:Tk)(s:List UInt8)(o:Option Nat):Nat×Tk:=match o with
 |none=>(0,{t with bad:=true})
 |some m=>(m,{t with bad:=t.bad||we s})
theorem xii{r:Int}(h:r<48):decide (r<48)=true:=by simp;omega
theorem yot{r:Int}(h:48≤r∧r≤57):decide (r<48)=false∧decide (57<r)=false:=by simp;omega
theorem xij{r:Int}(h:57<r):decide (r<48)=false∧decide (57<r)=true:=by simp;omega
theorem wz{n:Int}(h:0≤n∧n<4611686018427387904):IntKind.i64.wrap n=n:=by
 unfold IntKind.wrap;simp[IntKind.signed,IntKind.bits];omega
theorem ysw{n:Int}(h:0≤n∧n<1073741824):IntKind.i32.wrap n=n:=by
 unfold IntKind.wrap;simp[IntKind.signed,IntKind.bits];omega
theorem yya{n c:Nat}(hn:n<1000000000)(hc:48≤c∧c≤57):IntKind.i64.wrap (IntKind.i64.wrap (10*(n:Int))+IntKind.i64.wrap (IntKind.i32.wrap ((c:Int)- 48)))=((10*n+(c- 48):Nat):Int):=by
 rw[ysw (by omega),wz (n:=10*(n:Int)) (by omega),wz (n:=(c:Int)- 48) (by omega),wz (by omega)];omega
theorem xax(t:Tk)(s:List UInt8)(hb:s.length<1000000)(n:Nat)(S:xc):zca t s s.length n S=some (.ret (.int .i64 n),[xh {t with bad:=t.bad||we s},.siter s s.length],0,S):=by
 unfold zca;rw[zj];have h1:decide (s.length<s.length)=false:=by simp
 match s,hb with
 | [],_=>
  cases hbad:t.bad
  ·simp -implicitDefEqProofs only[go_sem,simprocAttr,h1,xh,vc,hbad,we,List.length_nil]
  ·simp -implicitDefEqProofs only[go_sem,simprocAttr,h1,xh,vc,hbad,we,List.length_nil]
 | [a],_=>
  cases hbad:t.bad
  ·simp -implicitDefEqProofs only[go_sem,simprocAttr,h1,xh,vc,hbad,we,List.length_cons,List.length_nil]
  ·simp -implicitDefEqProofs only[go_sem,simprocAttr,h1,xh,vc,hbad,we,List.length_cons,List.length_nil]
 |a::c::r,_=>
  have h2:decide (1<((r.length+1+1:Nat):Int))=true:=by rw[decide_eq_true_iff];omega
  have h1':decide (r.length+1+1<r.length+1+1)=false:=by simp
  have h3:(((a.toNat:Nat):Int)==48)=(a==48):=by
   rw[Bool.eq_iff_iff];simp only[beq_iff_eq];constructor
   ·intro h;exact UInt8.toNat_inj.1 (by show a.toNat=48;omega)
   ·rintro rfl;rfl
  cases hbad:t.bad
  ·simp -implicitDefEqProofs only[go_sem,simprocAttr,h1',h2,h3,xh,vc,hbad,we,List.length_cons]
   try simp
  ·simp -implicitDefEqProofs only[go_sem,simprocAttr,h1',h2,h3,xh,vc,hbad,we,List.length_cons]
   try simp
theorem xay(t:Tk)(s:List UInt8)(hb:s.length<1000000)(S:xc):∀p,p≤s.length→∀n:Nat,(s.length≤9→n<10^p)→∃q,zca t s p n S=some (.ret (.int .i64 (yr t s (ja (decide (9<s.length)) n (s.drop p))).1),[xh (yr t s (ja (decide (9<s.length)) n (s.drop p))).2,.siter s q],0,S):=by
 refine xv s.length ?_ fun p hp ih=> ?_
 ·intro n _
  refine⟨s.length,?_⟩;rw[xax t s hb n S,List.drop_length];rfl
 ·intro n hn
  have h1:decide (p<s.length)=true:=decide_eq_true hp;have h5:s.drop p=s[p]::s.drop (p+1):=List.drop_eq_getElem_cons hp
  have h9:decide (9<(s.length:Int))=decide (9<s.length):=by
   rw[Bool.eq_iff_iff];simp only[decide_eq_true_iff];omega
  rw[h5];simp only[ja,zfx]
  have bad:∀(r:Nat) (k:Nat),Utf8.decode ⟨s.toArray⟩ p=(r,k)→(r<48∨57<r∨9<s.length)→∃q,zca t s p n S=some (.ret (.int .i64 0),[xh {t with bad:=true},.siter s q],0,S):=by
   intro r k hd hr;refine⟨p+k,?_⟩;unfold zca;rw[zj];by_cases hlo:r<48
   ·have q1:=xii (r:=(r:Int)) (by omega)
    simp -implicitDefEqProofs only[go_sem,simprocAttr,h1,hd,q1,xh,vc]
   ·by_cases hhi:57<r
    ·obtain⟨q1,q2⟩:=xij (r:=(r:Int)) (by omega)
     simp -implicitDefEqProofs only[go_sem,simprocAttr,h1,hd,q1,q2,xh,vc]
    ·obtain⟨q1,q2⟩:=yot (r:=(r:Int)) (by omega)
     have q3:decide (9<(s.length:Int))=true:=by rw[decide_eq_true_iff];omega
     simp -implicitDefEqProofs only[go_sem,simprocAttr,h1,hd,q1,q2,q3,xh,vc]
  by_cases hlo:s[p].toNat<128
  ·have hd:=yow hp hlo
   cases hc:(decide (48≤s[p].toNat)&&decide (s[p].toNat≤57)&& !decide (9<s.length))
   ·simp only[cond_false,yr]
    refine bad _ _ hd ?_;simp only[Bool.and_eq_false_iff,decide_eq_false_iff_not,Bool.not_eq_false',decide_eq_true_iff]at hc;omega
   ·simp only[cond_true]
    simp only[Bool.and_eq_true,decide_eq_true_iff,Bool.not_eq_true',decide_eq_false_iff_not]at hc;obtain⟨q1,q2⟩:=yot (r:=((s[p].toNat:Nat):Int)) (by omega);have q3:decide (9<(s.length:Int))=false:=by rw[decide_eq_false_iff_not];omega
    have hn9:n<10^p:=hn (by omega);have hp9:p≤8:=by omega
    have hpow:(10:Nat)^p≤10^8:=Nat.pow_le_pow_right (by omega) hp9;obtain⟨q,hq⟩:=ih (10*n+(s[p].toNat- 48)) (fun _=>by rw[Nat.pow_succ];omega);refine⟨q,?_⟩;rw[←hq];have hw:=yya (n:=n) (c:=s[p].toNat) (by omega) (by omega)
    conv=>lhs;unfold zca;rw[zj]
    unfold zca;simp -implicitDefEqProofs only[go_sem,simprocAttr,h1,hd,q1,q2,q3,xh,vc,hw]
  ·obtain⟨r,k,hd,hr⟩:=yox hp hlo
   have hc:(decide (48≤s[p].toNat)&&decide (s[p].toNat≤57)&& !decide (9<s.length))=false:=by
    have:decide (s[p].toNat≤57)=false:=by rw[decide_eq_false_iff_not];omega
    rw[this,Bool.and_false,Bool.false_and]
   rw[hc];simp only[cond_false,yr];exact bad _ _ hd (by omega)
def numF(t:Tk):Nat×Tk:=yr (wordF t).2 (wordF t).1 (ja (decide (9<(wordF t).1.length)) 0 (wordF t).1)
theorem ysz{t:Tk}(hs:∀s∈t.ws,s.length<1000000):(wordF t).1.length<1000000:=by
 obtain⟨b,z,ws,bad⟩:=t
 match ws,hs with
 | [],_=>simp[wordF]
 | []::r,_=>simp[wordF]
 |(c::w)::r,hs=>exact hs (c::w) (List.mem_cons_self ..)
theorem zao(t:Tk)(h:t.ok)(hs:∀s∈t.ws,s.length<1000000):∃q,(zy T).call 180 [.ptr 0 0 0] [xh t] 0 []=some (.int .i64 (numF t).1,[xh (numF t).2,.siter (wordF t).1 q],0,[]):=by
 obtain⟨q,hq⟩:=xay (wordF t).2 (wordF t).1 (ysz hs) [] 0 (by omega) 0 (fun _=>by simp);rw[List.drop_zero]at hq;refine⟨q,?_⟩;have hc:=zf9 t h [];unfold numF;unfold zca at hq;rw[xgo];simp only[xh,vc]at hc hq⊢;rw[show((0:Nat):Int)=0 from rfl]at hq;simp -implicitDefEqProofs only[go_sem,simprocAttr,zb4,hc,hq,za9,za1]
@[go_sem]theorem callP_226{ih:Ih}{args:List V}{k:V→Prog}:callP ih T 226 args k=stowLP T args fun args=>needP (!xj args)<|optP (ixV args) fun v=>toP (qv T 226 v fun v=>some (k v)):=zf6 _ _ _ _ _ ynq.1 _ ynq.2.1
@[go_sem]theorem callP_246{ih:Ih}{args:List V}{k:V→Prog}:callP ih T 246 args k=stowLP T args fun args=>needP (!xj args)<|optP (zcm args) fun v=>toP (qv T 246 v fun v=>some (k v)):=zf6 _ _ _ _ _ yno.1 _ yno.2.1
@[go_sem]theorem callP_245{ih:Ih}{args:List V}{k:V→Prog}:callP ih T 245 args k=stowLP T args fun args=>needP (!xj args)<|optP (zc0 args) fun v=>toP (qv T 245 v fun v=>some (k v)):=zf6 _ _ _ _ _ ynp.1 _ ynp.2.1
@[go_sem]theorem callP_224{ih:Ih}{args:List V}{k:V→Prog}:callP ih T 224 args k=stowLP T args fun args=>needP (!xj args)<|optP (zcn args) fun v=>toP (qv T 224 v fun v=>some (k v)):=zf6 _ _ _ _ _ ynr.1 _ ynr.2.1
@[go_sem]theorem callP_173{ih:Ih}{args:List V}{k:V→Prog}:callP ih T 173 args k=stowLP T args fun args=>needP (!xj args)<|optP (zbu args) fun v=>toP (qv T 173 v fun v=>some (k v)):=zf6 _ _ _ _ _ ynt.1 _ ynt.2.1
@[go_sem]theorem ixV_eq(s:List UInt8)(c:Int):ixV [.str s,.int .u8 c]=some (.int .i64 (Lib.indexByte s c.toNat.toUInt8)):=rfl
@[go_sem]theorem ix1V_eq(s:List UInt8)(c:UInt8):zcm [.str s,.str [c]]=some (.int .i64 (Lib.indexByte s c)):=rfl
@[go_sem]theorem ct1V_eq(s:List UInt8)(c:UInt8):zc0 [.str s,.str [c]]=some (.int .i64 (Lib.countByte s c)):=rfl
def cutN(l:List UInt8):List UInt8×Bool:=match l.getLast? with
 |some c=>cond (c==10) (l.dropLast,true) (l,false)
 |none=>(l,false)
theorem yo0:cutN []=([],false):=rfl
theorem zov(r:List UInt8)(c:UInt8):cutN (r++ [c])=cond (c==10) (r,true) (r++ [c],false):=by
 unfold cutN;rw[List.getLast?_concat];simp
theorem xkg(r:List UInt8)(c:UInt8)(hb:r.length<1000000):(zy T).call 243 [.str (r++ [c]),.str [10]] [] 0 []=some (.bool (c==10),[],0,[]):=by
 have hl:(r++ [c]).length=r.length+1:=by simp
 have hi:IntKind.i64.wrap (((r.length+1:Nat):Int)- 1)=(r.length:Int):=by rw[wz (by omega)];omega
 have h1:decide (((r.length+1:Nat):Int)≥1)=true:=by rw[decide_eq_true_iff];omega
 have h2:decide (1≤((r.length+1:Nat):Int))=true:=by rw[decide_eq_true_iff];omega
 have h3:((r++ [c]).take (r.length+1)).drop r.length= [c]:=by rw[List.take_of_length_le (by simp)];simp
 have h4:decide (0≤(r.length:Int))=true:=by rw[decide_eq_true_iff];omega
 have h5:decide (r.length≤r.length+1∧r.length≤r.length)=true:=by rw[decide_eq_true_iff];omega
 have h6:([c]==([10]:List UInt8))=(c==10):=by cases h:(c==10)<;>simp_all
 rw[yoa];simp -implicitDefEqProofs only[go_sem,simprocAttr,hl,hi,h1,h2,h3,h4,h5,h6]
theorem xkf:(zy T).call 243 [.str [],.str [10]] [] 0 []=some (.bool false,[],0,[]):=by
 rw[yoa];simp -implicitDefEqProofs only[go_sem,simprocAttr]
theorem xkj:(zy T).call 227 [.str [],.str [10]] [] 0 []=some (.tup [.str [],.bool false],[],0,[]):=by
 rw[yob];have h:=xkf;simp -implicitDefEqProofs only[go_sem,simprocAttr,h]
theorem xkk(r:List UInt8)(c:UInt8)(hb:r.length<1000000):(zy T).call 227 [.str (r++ [c]),.str [10]] [] 0 []=some (.tup [.str (cutN (r++ [c])).1,.bool (cutN (r++ [c])).2],[],0,[]):=by
 have hl:(r++ [c]).length=r.length+1:=by simp
 have hi:IntKind.i64.wrap (((r.length+1:Nat):Int)- 1)=(r.length:Int):=by rw[wz (by omega)];omega
 have h4:decide (0≤(r.length:Int))=true:=by rw[decide_eq_true_iff];omega
 have h5:decide (0≤r.length∧r.length≤r.length+1)=true:=by rw[decide_eq_true_iff];omega
 have h6:(r++ [c]).take r.length=r:=by simp
 have h:=xkg r c hb;rw[zov,yob];cases hc:(c==10)
 ·rw[hc]at h
  simp -implicitDefEqProofs only[go_sem,simprocAttr,hl,hi,h]
 ·rw[hc]at h
  simp -implicitDefEqProofs only[go_sem,simprocAttr,hl,hi,h,h4,h5,h6]
theorem yp0(l:List UInt8)(hb:l.length<1000000):(zy T).call 177 [.str l,.str [10]] [] 0 []=some (.tup [.str (cutN l).1,.bool (cutN l).2],[],0,[]):=by
 rw[xgr];rcases List.eq_nil_or_concat l with rfl|⟨r,c,rfl⟩
 ·have h:=xkj
  rw[yo0];simp -implicitDefEqProofs only[go_sem,simprocAttr,h]
 ·rw[List.concat_eq_append]at hb⊢
  have h:=xkk r c (by simp at hb;omega);simp -implicitDefEqProofs only[go_sem,simprocAttr,h]
def splitB(c:UInt8):List UInt8→List (List UInt8)
 | []=> [[]]
 |b::r=>match b==c with
  |true=> []::splitB c r
  |false=>(match splitB c r with| []=> [[b]]|w::ws=>(b::w)::ws)
theorem zqi(c:UInt8):∀s,splitB c s≠ []
 | []=>by simp[splitB]
 |b::r=>by
  unfold splitB;split
  ·simp
  ·split<;>simp
theorem zlm{c:UInt8}:∀{s:List UInt8},c∉s→splitB c s= [s]
 | [],_=>rfl
 |b::r,h=>by
  simp only[List.mem_cons,not_or]at h;have hb:(b==c)=false:=by simpa using fun e=>h.1 e.symm
  unfold splitB;rw[hb,zlm h.2]
theorem zln{c:UInt8}(v:List UInt8):∀{u:List UInt8},c∉u→splitB c (u++c::v)=u::splitB c v
 | [],_=>by simp[splitB]
 |b::r,h=>by
  simp only[List.mem_cons,not_or]at h;have hb:(b==c)=false:=by simpa using fun e=>h.1 e.symm
  rw[List.cons_append,splitB,hb,zln v h.2]
theorem ymv{c:UInt8}{s:List UInt8}(h:c∉s):Lib.indexByte s c= -1:=by
 induction s with
 |nil=>rfl
 |cons b r ih=>
  simp only[List.mem_cons,not_or]at h;have hb:(b==c)=false:=by simpa using fun e=>h.1 e.symm
  unfold Lib.indexByte;rw[hb,ih h.2];rfl
theorem zn0{c:UInt8}(v:List UInt8):∀{u:List UInt8},c∉u→Lib.indexByte (u++c::v) c=u.length
 | [],_=>by simp[Lib.indexByte]
 |b::r,h=>by
  simp only[List.mem_cons,not_or]at h;have hb:(b==c)=false:=by simpa using fun e=>h.1 e.symm
  rw[List.cons_append];unfold Lib.indexByte;rw[hb,zn0 v h.2];simp only[Bool.false_eq_true,if_false,List.length_cons];rw[if_neg (by rw[beq_iff_eq];omega)];omega
theorem ynl(c:UInt8)(s:List UInt8):c∉s∨∃u v,s=u++c::v∧c∉u:=by
 induction s with
 |nil=>exact .inl (by simp)
 |cons b r ih=>
  by_cases hb:b=c
  ·subst hb;exact .inr ⟨[],r,rfl,by simp⟩
  ·rcases ih with h|⟨u,v,rfl,h⟩
   ·exact .inl (by simp only[List.mem_cons,not_or];exact⟨fun e=>hb e.symm,h⟩)
   ·exact .inr ⟨b::u,v,rfl,by simp only[List.mem_cons,not_or];exact⟨fun e=>hb e.symm,h⟩⟩
def zeq(s:List UInt8)(c:UInt8)(n i:Nat)(a:List (List UInt8)):Option Out:=
 (zy T).loop false [.code (.loop zj0),.inBlock 0,.code (.seq zl7 (.seq zl6 .ret))] ⟨228,66,0,[(0,.str s),(1,.str [c]),(2,.int .i64 0),(3,.int .i64 n),(9,.ref 0),(10,.int .i64 i)],[.cells false true 9 (a.map .str)],0,[]⟩
theorem zlf{α:Type}(a:List α)(i:Nat)(s:α)(h:i<a.length):(a.set i s).take (i+1)=a.take i++ [s]:=by
 apply List.ext_getElem?;intro k;rw[List.getElem?_take,List.getElem?_append,List.getElem?_take,List.length_take];by_cases h1:k<i
 ·rw[if_pos (by omega),if_pos (by omega),if_pos h1,List.getElem?_set_ne (by omega)]
 ·by_cases h2:k=i
  ·subst h2
   rw[if_pos (by omega),if_neg (by omega),List.getElem?_set_self h];rw[Nat.min_eq_left (by omega)];simp
  ·rw[if_neg (by omega),if_neg (by omega)]
   symm;rw[List.getElem?_eq_none];simp;omega
theorem yoj(s:List UInt8)(c:UInt8)(n i:Nat)(hi:i≤n)(hn:n<100000)(a:List (List UInt8))(ha:a.length=n+1)(hc:i=n∨Lib.indexByte s c= -1):zeq s c n i a=some (.ret (.sl true 1 (((a.set i s).take (i+1)).map .str)),[],0,[]):=by
 unfold zeq;rw[zj];have h2:decide (0≤(i:Int)∧(i:Int)<(a.length:Int))=true:=by rw[decide_eq_true_iff];omega
 have h3:a[i]? =some (a[i]'(by omega)):=List.getElem?_eq_getElem (by omega);have h4:IntKind.i64.wrap ((i:Int)+1)=((i+1:Nat):Int):=by rw[wz (by omega)];omega
 have h5:decide (0≤((i+1:Nat):Int))=true:=by rw[decide_eq_true_iff];omega
 have h6:decide (0≤((i+1:Nat):Int).toNat∧((i+1:Nat):Int).toNat≤a.length)=true:=by rw[decide_eq_true_iff];omega
 have h7:((i+1:Nat):Int).toNat=i+1:=by omega
 have h8:((a.map V.str).set i (V.str s)).take (i+1)=((a.set i s).take (i+1)).map V.str:=by rw[List.map_take,List.map_set]
 have h10:decide (i+1≤a.length)=true:=by rw[decide_eq_true_iff];omega
 by_cases he:i=n
 ·have h1:decide ((i:Int)<(n:Int))=false:=by rw[decide_eq_false_iff_not];omega
  simp -implicitDefEqProofs only[go_sem,simprocAttr,h1,h2,h3,h4,h5,h6,h7,h8,h10,Nat.sub_zero]
 ·have h1:decide ((i:Int)<(n:Int))=true:=by rw[decide_eq_true_iff];omega
  have h9:=hc.resolve_left he;simp -implicitDefEqProofs only[go_sem,simprocAttr,h1,h2,h3,h4,h5,h6,h7,h8,h9,h10,Nat.sub_zero]
theorem xag(c:UInt8)(n:Nat)(hn:n<100000):∀(k:Nat) (s:List UInt8) (i:Nat) (a:List (List UInt8)),s.length≤k→s.length<100000→i+s.count c=n→a.length=n+1→
  zeq s c n i a=some (.ret (.sl true 1 ((a.take i++splitB c s).map .str)),[],0,[]):=by
 intro k
 induction k with
 |zero=>
  intro s i a hk hs hi ha;have:s= []:=List.length_eq_zero_iff.1 (by omega);subst this;simp only[List.count_nil,Nat.add_zero]at hi;subst hi;rw[yoj [] c i i (by omega) hn a ha (.inl rfl),zlf a i [] (by omega)];rfl
 |succ k ih=>
  intro s i a hk hs hi ha;rcases ynl c s with h|⟨u,v,rfl,h⟩
  ·rw[yoj s c n i (by omega) hn a ha (.inr (ymv h)),zlf a i s (by omega),zlm h]
  ·have hc:(u++c::v).count c=v.count c+1:=by
    rw[List.count_append,List.count_cons_self,List.count_eq_zero.2 h];omega
   rw[hc]at hi;have hl:(u++c::v).length=u.length+(v.length+1):=by simp
   have hix:=zn0 (c:=c) v h;have h1:decide ((i:Int)<(n:Int))=true:=by rw[decide_eq_true_iff];omega
   have h2:decide (0≤(i:Int)∧(i:Int)<(a.length:Int))=true:=by rw[decide_eq_true_iff];omega
   have h3:a[i]? =some (a[i]'(by omega)):=List.getElem?_eq_getElem (by omega);have h4:IntKind.i64.wrap ((i:Int)+1)=((i+1:Nat):Int):=by rw[wz (by omega)];omega
   have h5:IntKind.i64.wrap ((u.length:Int)+0)=(u.length:Int):=by rw[wz (by omega)];omega
   have h6:IntKind.i64.wrap ((u.length:Int)+1)=((u.length+1:Nat):Int):=by rw[wz (by omega)];omega
   have h7:decide ((u.length:Int)<0)=false:=by rw[decide_eq_false_iff_not];omega
   have h8:(u++c::v).take u.length=u:=by simp
   have h9:((u++c::v).take (u.length+(v.length+1))).drop (u.length+1)=v:=by rw[List.take_of_length_le (by simp)];simp
   have q1:decide (0≤(u.length:Int))=true:=by rw[decide_eq_true_iff];omega
   have q2:decide (0≤u.length∧u.length≤u.length+(v.length+1))=true:=by rw[decide_eq_true_iff];omega
   have q3:decide (0≤((u.length+1:Nat):Int))=true:=by rw[decide_eq_true_iff];omega
   have q4:decide (u.length+1≤u.length+(v.length+1)∧u.length+(v.length+1)≤u.length+(v.length+1))=true:=by rw[decide_eq_true_iff];omega
   have hrec:=ih v (i+1) (a.set i u) (by omega) (by omega) (by omega) (by simp[ha]);rw[zlf a i u (by omega),List.append_assoc]at hrec;rw[zln v h];rw[show a.take i++u::splitB c v=a.take i++([u]++splitB c v)from rfl,←hrec]
   conv=>lhs;unfold zeq;rw[zj]
   unfold zeq;rw[List.map_set];simp -implicitDefEqProofs only[go_sem,simprocAttr,h1,h2,h3,h4,h5,h6,h7,h8,h9,q1,q2,q3,q4,hix,hl]
theorem xmr{t u:Nat}{a b:Int}{k:V→Prog}(h:a≤b):vj T .min [t,u] [.int .i64 a,.int .i64 b] k=k (.int .i64 a):=by
 show k (.int .i64 (if b<a then b else a))=_;rw[if_neg (by omega)]
theorem c228(s:List UInt8)(c:UInt8)(hs:s.length<10000):(zy T).call 228 [.str s,.str [c],.int .i64 0,.int .i64 (-1)] [] 0 []=some (.sl true 1 ((splitB c s).map .str),[],0,[]):=by
 have hc:s.count c≤s.length:=List.count_le_length;have h1:IntKind.i64.wrap ((Lib.countByte s c:Int)+1)=((s.count c+1:Nat):Int):=by unfold Lib.countByte;rw[wz (by omega)];omega
 have h2:IntKind.i64.wrap ((s.length:Int)+1)=((s.length+1:Nat):Int):=by rw[wz (by omega)];omega
 have h3:IntKind.i64.wrap (((s.count c+1:Nat):Int)- 1)=((s.count c:Nat):Int):=by rw[wz (by omega)];omega
 have h4:=xag c (s.count c) (by omega) s.length s 0 (List.replicate (s.count c+1) []) (Nat.le_refl _) (by omega) (by omega) (by simp);rw[List.take_zero,List.nil_append]at h4;unfold zeq at h4;rw[List.map_replicate]at h4;have h5:([c]==([]:List UInt8))=false:=rfl;have h6:=fun(t u:Nat) (k:V→Prog)=>xmr (t:=t) (u:=u) (a:=((s.count c+1:Nat):Int)) (b:=((s.length+1:Nat):Int)) (k:=k) (by omega);have h7:((s.count c+1:Nat):Int).toNat=s.count c+1:=by omega
 have h8:decide (0≤((s.count c+1:Nat):Int)∧((s.count c+1:Nat):Int)≤((s.count c+1:Nat):Int)∧((s.count c+1:Nat):Int)<maxRow)=true:=by
  rw[decide_eq_true_iff];refine⟨by omega,by omega,?_⟩;have:(10001:Int)<maxRow:=by decide
  omega
 rw[show((0:Nat):Int)=0 from rfl,List.replicate_succ]at h4;rw[xfx];simp -implicitDefEqProofs only[go_sem,simprocAttr,h1,h2,h3,h4,h5,h6,h7,h8]
theorem ypz(s:List UInt8)(c:UInt8)(hs:s.length<10000):(zy T).call 178 [.str s,.str [c]] [] 0 []=some (.sl true 1 ((splitB c s).map .str),[],0,[]):=by
 have h:=c228 s c hs;rw[xgq];simp -implicitDefEqProofs only[go_sem,simprocAttr,h]
def linesB:List UInt8→List (List UInt8)
 | []=> []
 |b::r=>match b==10 with
  |true=> [10]::linesB r
  |false=>(match linesB r with| []=> [[b]]|w::ws=>(b::w)::ws)
theorem ymo:∀{s:List UInt8},10∉s→s≠ []→linesB s= [s]
 | [],_,h=>absurd rfl h
 | [b],h,_=>by
  have hb:(b==10)=false:=by simpa using fun e=>h (by simp[e])
  simp[linesB,hb]
 |b::d::r,h,_=>by
  have h':=h;rw[List.mem_cons,not_or]at h;have hb:(b==10)=false:=by simpa using fun e=>h.1 e.symm
  rw[linesB,hb,ymo h.2 (by simp)]
theorem znr(v:List UInt8):∀{u:List UInt8},10∉u→linesB (u++10::v)=(u++ [10])::linesB v
 | [],_=>by simp[linesB]
 |b::r,h=>by
  rw[List.mem_cons,not_or]at h;have hb:(b==10)=false:=by simpa using fun e=>h.1 e.symm
  rw[List.cons_append,linesB,hb,znr v h.2];rfl
def zbd(d:Nat)(s:List UInt8)(S:xc):Option Out:=
 (zy T).loop false [.code (.loop zj1),.inBlock 0] ⟨225,25,1,[(0,.yld d),(1,.ptr 0 0 0)],[.cells true true 9 [.str s]],0,S⟩
theorem xah(d:Nat):∀(k:Nat) (s:List UInt8),s.length≤k→s.length<100000→∀(S S1:xc) (b:Bool),qz T d ((linesB s).map .str) S=some (b,S1)→
  ∃s' R,zbd d s S=some (.ret (.tup []),.cells true true 9 [.str s']::R,0,S1):=by
 intro k
 induction k with
 |zero=>
  intro s hk hs S S1 b hy;have:s= []:=List.length_eq_zero_iff.1 (by omega);subst this;simp only[linesB,List.map_nil,qz,Option.some.injEq,Prod.mk.injEq]at hy;obtain⟨_,rfl⟩:=hy;refine⟨[],[],?_⟩;unfold zbd;rw[zj];simp -implicitDefEqProofs only[go_sem,simprocAttr]
 |succ k ih=>
  intro s hk hs S S1 b hy;cases hs0:s with
  |nil=>
   subst hs0;simp only[linesB,List.map_nil,qz,Option.some.injEq,Prod.mk.injEq]at hy;obtain⟨_,rfl⟩:=hy;refine⟨[],[],?_⟩;unfold zbd;rw[zj];simp -implicitDefEqProofs only[go_sem,simprocAttr]
  |cons c0 r0=>
   have hpos:0<s.length:=by rw[hs0];simp
   rw[←hs0];have h1:decide (0<(s.length:Int))=true:=by rw[decide_eq_true_iff];omega
   rcases ynl 10 s with h|⟨u,v,he,h⟩
   ·have hix:Lib.indexByte s (Nat.toUInt8 10)= -1:=ymv h
    rw[ymo h (by rw[hs0];simp)]at hy;simp only[List.map_cons,List.map_nil,qz]at hy;cases hq:(zy T).yld d [.str s] S with
    |none=>rw[hq]at hy;cases hy
    |some w=>
     obtain⟨c,S2⟩:=w;rw[hq]at hy;refine⟨[],[],?_⟩;cases c
     ·simp only[Option.some.injEq,Prod.mk.injEq]at hy
      obtain⟨_,rfl⟩:=hy;unfold zbd;rw[zj];simp -implicitDefEqProofs only[go_sem,simprocAttr,h1,hix,hq]
     ·simp only[Option.some.injEq,Prod.mk.injEq]at hy
      obtain⟨_,rfl⟩:=hy;unfold zbd;rw[zj];simp -implicitDefEqProofs only[go_sem,simprocAttr,h1,hix,hq];rw[zj];simp -implicitDefEqProofs only[go_sem,simprocAttr]
   ·have hl:s.length=u.length+(v.length+1):=by rw[he];simp
    have hix:Lib.indexByte s (Nat.toUInt8 10)=u.length:=by rw[he];exact zn0 v h
    have h2:decide (0≤(u.length:Int))=true:=by rw[decide_eq_true_iff];omega
    have h3:IntKind.i64.wrap ((u.length:Int)+1)=((u.length+1:Nat):Int):=by rw[wz (by omega)];omega
    have h4:decide (0≤((u.length+1:Nat):Int))=true:=by rw[decide_eq_true_iff];omega
    have h5:((u.length+1:Nat):Int).toNat=u.length+1:=by omega
    have h6:decide (0≤u.length+1∧u.length+1≤s.length)=true:=by rw[decide_eq_true_iff];omega
    have h7:decide (u.length+1≤s.length∧s.length≤s.length)=true:=by rw[decide_eq_true_iff];omega
    have h10:decide (u.length+1≤s.length)=true:=by rw[decide_eq_true_iff];omega
    have h8:s.take (u.length+1)=u++ [10]:=by rw[he,List.take_append,List.take_of_length_le (by omega)];simp
    have h9:(s.take s.length).drop (u.length+1)=v:=by rw[List.take_length,he];simp
    rw[he,znr v h]at hy;simp only[List.map_cons,qz]at hy;cases hq:(zy T).yld d [.str (u++ [10])] S with
    |none=>rw[hq]at hy;cases hy
    |some w=>
     obtain⟨c,S2⟩:=w;rw[hq]at hy;cases c
     ·simp only[Option.some.injEq,Prod.mk.injEq]at hy
      obtain⟨_,rfl⟩:=hy;refine⟨v,[.free,.free,.free,.free,.free,.free,.free,.free,.free,.free],?_⟩;unfold zbd;rw[zj];simp -implicitDefEqProofs only[go_sem,simprocAttr,h1,h2,h3,h4,h5,h6,h7,h8,h9,h10,hix,hq]
      try rfl
     ·obtain⟨s',R,hr⟩:=ih v (by omega) (by omega) S2 S1 b hy
      refine⟨s',R,?_⟩;rw[←hr]
      conv=>lhs;unfold zbd;rw[zj]
      unfold zbd;simp -implicitDefEqProofs only[go_sem,simprocAttr,h1,h2,h3,h4,h5,h6,h7,h8,h9,h10,hix,hq]
theorem xkl(d:Nat)(s:List UInt8)(hs:s.length<100000)(S S1:xc)(b:Bool)(hy:qz T d ((linesB s).map .str) S=some (b,S1)):
  ∃s' R,(zy T).call 225 [.yld d,.ptr 0 0 0] [.cells true true 9 [.str s]] 0 S=some (.tup [],.cells true true 9 [.str s']::R,0,S1):=by
 obtain⟨s',R,h⟩:=xah d s.length s (Nat.le_refl _) hs S S1 b hy;refine⟨s',R,?_⟩;unfold zbd at h;rw[xfy];simp -implicitDefEqProofs only[go_sem,simprocAttr,h]
theorem xld(s:List UInt8):(zy T).call 176 [.str s] [] 0 []=some (.fn 225 [.ptr 0 0 0],[.cells true true 9 [.str s]],0,[]):=by
 rw[xgs];simp -implicitDefEqProofs only[go_sem,simprocAttr]
def jw(nm:List UInt8)(ch:Nat):List (Int×Int)→Row
 | []=> .cells true true 180 [.agg [.str nm,.int .i64 ch,.sl false 0 []]]
 |_=> .cells true false 180 [.agg [.str nm,.int .i64 ch,.ref 7]]
def jj:List (Int×Int)→zw
 | []=> []
 |l=> [.cells false true 142 (l.map jq)]
def kg(o3 r4:Row)(en is:Bool)(nm:List UInt8)(ch:Nat)(t:Tk)(acc:List (Int×Int)):Option Out:=
 (zy T).loop true [.code (.loop zjt),.inBlock 2,.code (.seq (.seq zlz (.cond (.tmp 73) (.seq zly .ret) .skip)) zlx),.inBlock 1]
  ⟨93,88,5,[(2,.ptr 0 0 0),(3,.ptr 1 0 0),(4,.ptr 2 0 0),(5,.ptr 3 0 0),(8,.bool en),(9,.ptr 5 0 0),(11,.fn 180 [.yld 0,.ptr 5 0 0]),(12,.bool is),(13,.ptr 6 0 0)],
   [.cells true true 32 [.sl false 0 []],.cells true true 3 [.int .i64 0],.cells true true 29 [.int .i64 0],o3,r4,xh t,jw nm ch acc]++jj acc,0,[]⟩
def E4:Den.Env:= [(2,.ptr 0 0 0),(3,.ptr 1 0 0),(4,.ptr 2 0 0),(5,.ptr 3 0 0)]
def yw9:List V→zw
 | []=> [.cells true true 32 [.sl false 0 []]]
 |l=> [.cells true false 32 [.ref 4],.cells false true 180 l]
def Hst(n e:Int)(l:List V):zw:= [.cells true true 32 [.sl false 0 []],.cells true true 3 [.int .i64 n],.cells true true 29 [.int .i64 e]]++yw9 l
def vd(env:Den.Env):Prop:=xf env 2= .ptr 0 0 0∧xf env 3= .ptr 1 0 0∧xf env 4= .ptr 2 0 0∧xf env 5= .ptr 3 0 0
def zan(env:Den.Env):Option Out→Option (Option Code×Den.Env×zw×Nat)
 |some (.round J,H,Fz,[])=>zo (gc [2,3,4,5] ⟨93,88,0,env,H,Fz,[]⟩) fun st=>some (J,st.env,st.H,st.Fz)
 |_=>none
theorem vq(env:Den.Env)(J:Option Code)(H:zw)(Fz:Nat):zan env (some (.round J,H,Fz,[]))=zo (gc [2,3,4,5] ⟨93,88,0,env,H,Fz,[]⟩) fun st=>some (J,st.env,st.H,st.Fz):=rfl
def v7:List V→Row
 | []=> .cells true true 32 [.sl false 0 []]
 |_=> .cells true false 32 [.ref 4]
def vi:List V→Row
 | []=> .dead
 |l=> .cells false true 180 l
def zjg(nm:List UInt8)(ch:Nat)(acc:List (Int×Int)):V:= .agg [.str nm,.int .i64 ch,wt 2 (acc.map jq)]
def zcz(os:List V)(nm:List UInt8)(ch:Nat)(acc:List (Int×Int)):Bool→Option (Option Code×Den.Env×zw×Nat)
 |true=>some (some .ret,E4,Hst (os.length:Nat) 25 os,0)
 |false=>some (none,E4,Hst 0 0 (os++ [zjg nm ch acc]),0)
theorem zna(l:List (Int×Int)):pureL (l.map jq)=true:=by
 rw[pureL_iff];intro v hv;obtain⟨s,_,rfl⟩:=List.mem_map.1 hv;rfl
theorem xhy(en is:Bool)(nm:List UInt8)(ch:Nat)(b:Bool)(z:Nat)(bad:Bool)(env:Den.Env)(he:vd env):
  zan env (kg (v7 []) (vi []) en is nm ch ⟨b,z,[],bad⟩ [])=zcz [] nm ch [] (!en|| !is||bad):=by
 obtain⟨e2,e3,e4,e5⟩:=he;obtain⟨h8,h9⟩:=ze (n:=0) (by omega);unfold kg;rw[zj];cases en
 ·simp -implicitDefEqProofs only[go_sem,simprocAttr,jw,jj,xh,vc,v7,vi,List.map_nil,List.append_nil,vq,e2,e3,e4,e5,h8,h9]
  rfl
 ·cases is
  ·simp -implicitDefEqProofs only[go_sem,simprocAttr,jw,jj,xh,vc,v7,vi,List.map_nil,List.append_nil,vq,e2,e3,e4,e5,h8,h9]
   rfl
  ·cases bad
   ·simp -implicitDefEqProofs only[go_sem,simprocAttr,jw,jj,xh,vc,v7,vi,List.map_nil,List.append_nil,vq,e2,e3,e4,e5,h8,h9]
    rfl
   ·simp -implicitDefEqProofs only[go_sem,simprocAttr,jw,jj,xh,vc,v7,vi,List.map_nil,List.append_nil,vq,e2,e3,e4,e5,h8,h9]
    rfl
theorem xhx(o0:V)(os:List V)(hl:os.length<10000)(hp:pureL (o0::os)=true)(en is:Bool)(nm:List UInt8)(ch:Nat)(b:Bool)(z:Nat)(bad:Bool)(env:Den.Env)(he:vd env):
  zan env (kg (v7 (o0::os)) (vi (o0::os)) en is nm ch ⟨b,z,[],bad⟩ [])=zcz (o0::os) nm ch [] (!en|| !is||bad):=by
 obtain⟨e2,e3,e4,e5⟩:=he;obtain⟨h8,h9⟩:=ze (n:=os.length+1) (by omega);unfold kg;rw[zj];cases en
 ·simp -implicitDefEqProofs only[go_sem,simprocAttr,jw,jj,xh,vc,v7,vi,List.map_nil,List.append_nil,vq,e2,e3,e4,e5,h8,h9]
  rfl
 ·cases is
  ·simp -implicitDefEqProofs only[go_sem,simprocAttr,jw,jj,xh,vc,v7,vi,List.map_nil,List.append_nil,vq,e2,e3,e4,e5,h8,h9]
   rfl
  ·cases bad
   ·simp -implicitDefEqProofs only[go_sem,simprocAttr,jw,jj,xh,vc,v7,vi,List.map_nil,List.append_nil,vq,e2,e3,e4,e5,h8,h9]
    rfl
   ·simp -implicitDefEqProofs only[go_sem,simprocAttr,jw,jj,xh,vc,v7,vi,List.map_nil,List.append_nil,vq,e2,e3,e4,e5,h8,h9]
    rfl
theorem xhw(a0:Int×Int)(acc:List (Int×Int))(en is:Bool)(nm:List UInt8)(ch:Nat)(b:Bool)(z:Nat)(bad:Bool)(env:Den.Env)(he:vd env):
  zan env (kg (v7 []) (vi []) en is nm ch ⟨b,z,[],bad⟩ (a0::acc))=zcz [] nm ch (a0::acc) (!en|| !is||bad):=by
 obtain⟨e2,e3,e4,e5⟩:=he;obtain⟨h8,h9⟩:=ze (n:=0) (by omega);have hq:=zna acc;unfold pureL at hq;unfold kg;rw[zj];cases en
 ·simp -implicitDefEqProofs only[go_sem,simprocAttr,jw,jj,xh,vc,v7,vi,List.map_nil,List.map_cons,List.append_nil,vq,e2,e3,e4,e5,h8,h9]
  rfl
 ·cases is
  ·simp -implicitDefEqProofs only[go_sem,simprocAttr,jw,jj,xh,vc,v7,vi,List.map_nil,List.map_cons,List.append_nil,vq,e2,e3,e4,e5,h8,h9]
   rfl
  ·cases bad
   ·simp -implicitDefEqProofs only[go_sem,simprocAttr,jw,jj,xh,vc,v7,vi,List.map_nil,List.map_cons,List.append_nil,vq,e2,e3,e4,e5,h8,h9]
    rfl
   ·simp -implicitDefEqProofs only[go_sem,simprocAttr,jw,jj,xh,vc,v7,vi,List.map_nil,List.map_cons,List.append_nil,vq,e2,e3,e4,e5,h8,h9]
    rfl
theorem xhv(o0:V)(os:List V)(hl:os.length<10000)(hp:pureL (o0::os)=true)(a0:Int×Int)(acc:List (Int×Int))(en is:Bool)(nm:List UInt8)(ch:Nat)(b:Bool)(z:Nat)(bad:Bool)(env:Den.Env)(he:vd env):
  zan env (kg (v7 (o0::os)) (vi (o0::os)) en is nm ch ⟨b,z,[],bad⟩ (a0::acc))=zcz (o0::os) nm ch (a0::acc) (!en|| !is||bad):=by
 obtain⟨e2,e3,e4,e5⟩:=he;obtain⟨h8,h9⟩:=ze (n:=os.length+1) (by omega);have hq:=zna acc;unfold pureL at hq;unfold kg;rw[zj];cases en
 ·simp -implicitDefEqProofs only[go_sem,simprocAttr,jw,jj,xh,vc,v7,vi,List.map_nil,List.map_cons,List.append_nil,vq,e2,e3,e4,e5,h8,h9]
  rfl
 ·cases is
  ·simp -implicitDefEqProofs only[go_sem,simprocAttr,jw,jj,xh,vc,v7,vi,List.map_nil,List.map_cons,List.append_nil,vq,e2,e3,e4,e5,h8,h9]
   rfl
  ·cases bad
   ·simp -implicitDefEqProofs only[go_sem,simprocAttr,jw,jj,xh,vc,v7,vi,List.map_nil,List.map_cons,List.append_nil,vq,e2,e3,e4,e5,h8,h9]
    rfl
   ·simp -implicitDefEqProofs only[go_sem,simprocAttr,jw,jj,xh,vc,v7,vi,List.map_nil,List.map_cons,List.append_nil,vq,e2,e3,e4,e5,h8,h9]
    rfl
theorem yoi(os:List V)(hp:pureL os=true)(hl:os.length<10000)(acc:List (Int×Int))(en is:Bool)(nm:List UInt8)(ch:Nat)(t:Tk)(ht:t.ws= [])(env:Den.Env)(he:vd env):
  zan env (kg (v7 os) (vi os) en is nm ch t acc)=zcz os nm ch acc (!en|| !is||t.bad):=by
 obtain⟨b,z,ws,bad⟩:=t;cases ht;cases os with
 |nil=>cases acc with
  |nil=>exact xhy en is nm ch b z bad env he
  |cons a0 acc=>exact xhw a0 acc en is nm ch b z bad env he
 |cons o0 os=>cases acc with
  |nil=>exact xhx o0 os (by simp at hl;omega) hp en is nm ch b z bad env he
  |cons a0 acc=>exact xhv o0 os (by simp at hl;omega) hp a0 acc en is nm ch b z bad env he
theorem zbr{t:Tk}(h:t.ok)(hs:∀s∈t.ws,s.length<1000000):(numF t).2.ok∧∀s∈(numF t).2.ws,s.length<1000000:=by
 have h1:(numF t).2.ws=(wordF t).2.ws∧(numF t).2.z=(wordF t).2.z:=by
  unfold numF yr;split<;>exact⟨rfl,rfl⟩
 have h2:=zp5 h;refine⟨⟨by rw[h1.1,h1.2];exact h2.1,by rw[h1.1];exact h2.2⟩,fun s hm=> ?_⟩;rw[h1.1]at hm;refine hs s ?_;obtain⟨b,z,ws,bad⟩:=t
 match ws,hm with
 | []::r,hm=>cases hm
 |(c::w)::r,hm=>exact List.mem_cons_of_mem _ hm
@[go_sem]theorem reachR_dead(n id:Nat)(w seen:List Nat)(H:zw):zdr n id w seen H .dead=reach n w (id::seen) H:=rfl
theorem ytt(en is:Bool)(nm:List UInt8)(ch:Nat)(t:Tk)(h:t.ok)(hs:∀s∈t.ws,s.length<1000000)(hw:t.ws≠ []):
  kg (v7 []) (vi []) en is nm ch t []=kg (v7 []) (vi []) en is nm ch (numF (numF t).2).2 [(((numF t).1:Int),((numF (numF t).2).1:Int))]:=by
 obtain⟨h2,hs2⟩:=zbr h hs;obtain⟨q1,hc1⟩:=zao t h hs;obtain⟨q2,hc2⟩:=zao (numF t).2 h2 hs2
 have hne:decide (0<((t.ws.length:Nat):Int))=true:=by
  rw[decide_eq_true_iff];have:=List.length_pos_iff.2 hw;omega
 obtain⟨h8,h9⟩:=ze (n:=0) (by omega);generalize numF (numF t).2=N2 at*;generalize numF t=N1 at*;simp only[xh,vc]at hc1 hc2
 conv=>lhs;unfold kg;rw[zj]
 unfold kg;simp -implicitDefEqProofs only[go_sem,simprocAttr,jw,jj,xh,vc,v7,vi,List.map_nil,List.map_cons,List.append_nil,List.length_map,hne,zb4,za9,za1,hc1,hc2,h8,h9]
theorem yts(o0:V)(os:List V)(en is:Bool)(nm:List UInt8)(ch:Nat)(t:Tk)(h:t.ok)(hs:∀s∈t.ws,s.length<1000000)(hw:t.ws≠ []):
  kg (v7 (o0::os)) (vi (o0::os)) en is nm ch t []=kg (v7 (o0::os)) (vi (o0::os)) en is nm ch (numF (numF t).2).2 [(((numF t).1:Int),((numF (numF t).2).1:Int))]:=by
 obtain⟨h2,hs2⟩:=zbr h hs;obtain⟨q1,hc1⟩:=zao t h hs;obtain⟨q2,hc2⟩:=zao (numF t).2 h2 hs2
 have hne:decide (0<((t.ws.length:Nat):Int))=true:=by
  rw[decide_eq_true_iff];have:=List.length_pos_iff.2 hw;omega
 obtain⟨h8,h9⟩:=ze (n:=0) (by omega);generalize numF (numF t).2=N2 at*;generalize numF t=N1 at*;simp only[xh,vc]at hc1 hc2
 conv=>lhs;unfold kg;rw[zj]
 unfold kg;simp -implicitDefEqProofs only[go_sem,simprocAttr,jw,jj,xh,vc,v7,vi,List.map_nil,List.map_cons,List.append_nil,List.map_append,List.length_map,hne,zb4,za9,za1,hc1,hc2,h8,h9]
theorem ytr(a0:Int×Int)(acc:List (Int×Int))(ha:acc.length<10000)(en is:Bool)(nm:List UInt8)(ch:Nat)(t:Tk)(h:t.ok)(hs:∀s∈t.ws,s.length<1000000)(hw:t.ws≠ []):
  kg (v7 []) (vi []) en is nm ch t (a0::acc)=kg (v7 []) (vi []) en is nm ch (numF (numF t).2).2 (a0::(acc++ [(((numF t).1:Int),((numF (numF t).2).1:Int))])):=by
 obtain⟨h2,hs2⟩:=zbr h hs;obtain⟨q1,hc1⟩:=zao t h hs;obtain⟨q2,hc2⟩:=zao (numF t).2 h2 hs2
 have hne:decide (0<((t.ws.length:Nat):Int))=true:=by
  rw[decide_eq_true_iff];have:=List.length_pos_iff.2 hw;omega
 obtain⟨h8,h9⟩:=ze (n:=acc.length+1) (by omega);generalize numF (numF t).2=N2 at*;generalize numF t=N1 at*;simp only[xh,vc]at hc1 hc2
 conv=>lhs;unfold kg;rw[zj]
 unfold kg;simp -implicitDefEqProofs only[go_sem,simprocAttr,jw,jj,xh,vc,v7,vi,List.map_nil,List.map_cons,List.append_nil,List.map_append,List.length_map,hne,zb4,za9,za1,hc1,hc2,h8,h9]
theorem ytq(o0:V)(os:List V)(a0:Int×Int)(acc:List (Int×Int))(ha:acc.length<10000)(en is:Bool)(nm:List UInt8)(ch:Nat)(t:Tk)(h:t.ok)(hs:∀s∈t.ws,s.length<1000000)(hw:t.ws≠ []):
  kg (v7 (o0::os)) (vi (o0::os)) en is nm ch t (a0::acc)=kg (v7 (o0::os)) (vi (o0::os)) en is nm ch (numF (numF t).2).2 (a0::(acc++ [(((numF t).1:Int),((numF (numF t).2).1:Int))])):=by
 obtain⟨h2,hs2⟩:=zbr h hs;obtain⟨q1,hc1⟩:=zao t h hs;obtain⟨q2,hc2⟩:=zao (numF t).2 h2 hs2
 have hne:decide (0<((t.ws.length:Nat):Int))=true:=by
  rw[decide_eq_true_iff];have:=List.length_pos_iff.2 hw;omega
 obtain⟨h8,h9⟩:=ze (n:=acc.length+1) (by omega);generalize numF (numF t).2=N2 at*;generalize numF t=N1 at*;simp only[xh,vc]at hc1 hc2
 conv=>lhs;unfold kg;rw[zj]
 unfold kg;simp -implicitDefEqProofs only[go_sem,simprocAttr,jw,jj,xh,vc,v7,vi,List.map_nil,List.map_cons,List.append_nil,List.map_append,List.length_map,hne,zb4,za9,za1,hc1,hc2,h8,h9]
theorem ytu(os:List V)(acc:List (Int×Int))(ha:acc.length<10000)(en is:Bool)(nm:List UInt8)(ch:Nat)(t:Tk)(h:t.ok)(hs:∀s∈t.ws,s.length<1000000)(hw:t.ws≠ []):
  kg (v7 os) (vi os) en is nm ch t acc=kg (v7 os) (vi os) en is nm ch (numF (numF t).2).2 (acc++ [(((numF t).1:Int),((numF (numF t).2).1:Int))]):=by
 cases os with
 |nil=>cases acc with
  |nil=>exact ytt en is nm ch t h hs hw
  |cons a0 acc=>exact ytr a0 acc (by simp at ha;omega) en is nm ch t h hs hw
 |cons o0 os=>cases acc with
  |nil=>exact yts o0 os en is nm ch t h hs hw
  |cons a0 acc=>exact ytq o0 os a0 acc (by simp at ha;omega) en is nm ch t h hs hw
theorem zbl(t:Tk):(wordF t).2.ws.length≤t.ws.length- 1:=by
 obtain⟨b,z,ws,bad⟩:=t
 match ws with
 | []=>simp[wordF]
 | []::r=>simp[wordF]
 |(c::w)::r=>simp[wordF]
theorem ze9(t:Tk):(numF t).2.ws=(wordF t).2.ws:=by
 unfold numF yr;split<;>rfl
def lossP:Nat→Tk→List (Int×Int)→List (Int×Int)×Tk
 |0,t,acc=>(acc,t)
 |n+1,t,acc=>match t.ws with
  | []=>(acc,t)
  |_=>lossP n (numF (numF t).2).2 (acc++ [(((numF t).1:Int),((numF (numF t).2).1:Int))])
theorem yz3(os:List V)(hp:pureL os=true)(hl:os.length<10000)(en is:Bool)(nm:List UInt8)(ch:Nat)(env:Den.Env)(he:vd env):∀(n:Nat) (t:Tk) (acc:List (Int×Int)),t.ws.length≤n→acc.length+n<10000→t.ok→(∀s∈t.ws,s.length<1000000)→
  zan env (kg (v7 os) (vi os) en is nm ch t acc)=zcz os nm ch (lossP n t acc).1 (!en|| !is||(lossP n t acc).2.bad):=by
 intro n
 induction n with
 |zero=>
  intro t acc hn hacc ht hs;exact yoi os hp hl acc en is nm ch t (List.length_eq_zero_iff.1 (by omega)) env he
 |succ n ih=>
  intro t acc hn hacc ht hs;cases hw:t.ws with
  |nil=>
   have:lossP (n+1) t acc=(acc,t):=by simp[lossP,hw]
   rw[this];exact yoi os hp hl acc en is nm ch t hw env he
  |cons w ws=>
   have:lossP (n+1) t acc=lossP n (numF (numF t).2).2 (acc++ [(((numF t).1:Int),((numF (numF t).2).1:Int))]):=by simp[lossP,hw]
   rw[this,ytu os acc (by omega) en is nm ch t ht hs (by rw[hw];simp)];obtain⟨h2,hs2⟩:=zbr ht hs;obtain⟨h3,hs3⟩:=zbr h2 hs2;have e1:=zbl t;have e2:=zbl (numF t).2;refine ih _ _ ?_ (by simp;omega) h3 hs3;rw[ze9];rw[ze9]at e2;omega
def zah:List UInt8:= [99,97,117,115,101]
def tk0(line:List UInt8):Tk:=⟨true,1,splitB 32 (cutN line).1,false⟩
def uq(line:List UInt8):List UInt8×Tk:=wordF (wordF (tk0 line)).2
def k8(line:List UInt8):Nat×Tk:=numF (uq line).2
def lsP(line:List UInt8):List (Int×Int)×Tk:=lossP (k8 line).2.ws.length (k8 line).2 []
def vz(line:List UInt8):Bool:= !(cutN line).2|| !((wordF (tk0 line)).1==zah)||(lsP line).2.bad
def zed(os:List V)(line:List UInt8):=zcz os (uq line).1 (k8 line).1 (lsP line).1 (vz line)
theorem zfz(l:List UInt8):(cutN l).1.length≤l.length:=by
 rcases List.eq_nil_or_concat l with rfl|⟨r,c,rfl⟩
 ·simp[yo0]
 ·rw[List.concat_eq_append,zov]
  cases c==10<;>simp
theorem zhd(c:UInt8):∀s:List UInt8,(splitB c s).length≤s.length+1∧∀w∈splitB c s,w.length≤s.length
 | []=>by simp[splitB]
 |b::r=>by
  obtain⟨h1,h2⟩:=zhd c r;unfold splitB;cases hb:(b==c)
  ·simp only
   cases hs:splitB c r with
   |nil=>exact absurd hs (zqi c r)
   |cons w ws=>
    rw[hs]at h1 h2;simp only[List.length_cons]at h1⊢;refine⟨by omega,fun x hx=> ?_⟩;rcases List.mem_cons.1 hx with rfl|hx
    ·have:=h2 w (List.mem_cons_self ..);simp;omega
    ·have:=h2 x (List.mem_cons_of_mem _ hx);omega
  ·simp only[List.length_cons]
   refine⟨by omega,fun x hx=> ?_⟩;rcases List.mem_cons.1 hx with rfl|hx
   ·simp
   ·have:=h2 x hx;omega
theorem zha{line:List UInt8}(hl:line.length<9000):(tk0 line).ok∧∀s∈(tk0 line).ws,s.length<1000000:=by
 have h1:=zfz line;obtain⟨h2,h3⟩:=zhd 32 (cutN line).1;exact⟨⟨fun _=>rfl,by show(splitB 32 (cutN line).1).length<_;omega⟩,fun s hs=>by have:=h3 s hs;omega⟩
theorem zcf{t:Tk}(h:t.ok)(hs:∀s∈t.ws,s.length<1000000):(wordF t).2.ok∧∀s∈(wordF t).2.ws,s.length<1000000:=
 ⟨zp5 h,fun s hm=>(zbr h hs).2 s (by rw[ze9];exact hm)⟩
theorem yu2(line:List UInt8)(hl:line.length<9000)(env:Den.Env)(he:vd env):
  runK (zy T) T true qg [.code zbb,.beginRound,.code za6] ⟨93,88,5,(21,.str line)::env,[.cells true true 32 [.sl false 0 []],.cells true true 3 [.int .i64 0],.cells true true 29 [.int .i64 0],v7 [],vi []],0,[]⟩=
   kg (v7 []) (vi []) (cutN line).2 ((wordF (tk0 line)).1==zah) (uq line).1 (k8 line).1 (k8 line).2 []:=by
 obtain⟨e2,e3,e4,e5⟩:=he;have h1:=yp0 line (by omega);have h2:=ypz (cutN line).1 32 (by have:=zfz line;omega);obtain⟨k0,s0⟩:=zha hl;obtain⟨k1,s1⟩:=zcf k0 s0;obtain⟨k2,s2⟩:=zcf k1 s1;have a1:=zf9 (tk0 line) k0 [];have a2:=zf9 (wordF (tk0 line)).2 k1 [];obtain⟨q,a3⟩:=zao (wordF (wordF (tk0 line)).2).2 k2 s2;have b0:(tk0 line).b=true∧(tk0 line).z=1∧(tk0 line).ws=splitB 32 (cutN line).1∧(tk0 line).bad=false:=⟨rfl,rfl,rfl,rfl⟩;obtain⟨b1,b2,b3,b4⟩:=b0;unfold k8 uq;simp only[xh,vc]at a1 a2 a3;rw[b1,b2,b3,b4]at a1;unfold kg;have hp:=zm9 (splitB 32 (cutN line).1);generalize numF (wordF (wordF (tk0 line)).2).2=N3 at*;generalize wordF (wordF (tk0 line)).2=W2 at*;generalize wordF (tk0 line)=W1 at*;generalize splitB 32 (cutN line).1=ws at*;simp -implicitDefEqProofs only[go_sem,simprocAttr,jw,jj,xh,vc,v7,vi,List.map_nil,List.append_nil,zb4,za9,za1,e2,e3,e4,e5,h1,h2,a1,a2,a3,zah]
theorem yu1(o0:V)(os:List V)(line:List UInt8)(hl:line.length<9000)(env:Den.Env)(he:vd env):
  runK (zy T) T true qg [.code zbb,.beginRound,.code za6] ⟨93,88,5,(21,.str line)::env,[.cells true true 32 [.sl false 0 []],.cells true true 3 [.int .i64 0],.cells true true 29 [.int .i64 0],v7 (o0::os),vi (o0::os)],0,[]⟩=
   kg (v7 (o0::os)) (vi (o0::os)) (cutN line).2 ((wordF (tk0 line)).1==zah) (uq line).1 (k8 line).1 (k8 line).2 []:=by
 obtain⟨e2,e3,e4,e5⟩:=he;have h1:=yp0 line (by omega);have h2:=ypz (cutN line).1 32 (by have:=zfz line;omega);obtain⟨k0,s0⟩:=zha hl;obtain⟨k1,s1⟩:=zcf k0 s0;obtain⟨k2,s2⟩:=zcf k1 s1;have a1:=zf9 (tk0 line) k0 [];have a2:=zf9 (wordF (tk0 line)).2 k1 [];obtain⟨q,a3⟩:=zao (wordF (wordF (tk0 line)).2).2 k2 s2;have b0:(tk0 line).b=true∧(tk0 line).z=1∧(tk0 line).ws=splitB 32 (cutN line).1∧(tk0 line).bad=false:=⟨rfl,rfl,rfl,rfl⟩;obtain⟨b1,b2,b3,b4⟩:=b0;unfold k8 uq;simp only[xh,vc]at a1 a2 a3;rw[b1,b2,b3,b4]at a1;unfold kg;have hp:=zm9 (splitB 32 (cutN line).1);generalize numF (wordF (wordF (tk0 line)).2).2=N3 at*;generalize wordF (wordF (tk0 line)).2=W2 at*;generalize wordF (tk0 line)=W1 at*;generalize splitB 32 (cutN line).1=ws at*;simp -implicitDefEqProofs only[go_sem,simprocAttr,jw,jj,xh,vc,v7,vi,List.map_nil,List.append_nil,zb4,za9,za1,e2,e3,e4,e5,h1,h2,a1,a2,a3,zah]
def u1(os:List V):zw:= [.cells true true 32 [.sl false 0 []],.cells true true 3 [.int .i64 0],.cells true true 29 [.int .i64 0],v7 os,vi os]
theorem yvn(os:List V)(hp:pureL os=true)(hn:os.length<10000)(line:List UInt8)(hl:line.length<9000)(env:Den.Env)(he:vd env):
  zan env (runK (zy T) T true qg [.code zbb,.beginRound,.code za6] ⟨93,88,5,(21,.str line)::env,u1 os,0,[]⟩)=zed os line:=by
 obtain⟨k0,s0⟩:=zha hl;obtain⟨k1,s1⟩:=zcf k0 s0;obtain⟨k2,s2⟩:=zcf k1 s1;obtain⟨k3,s3⟩:=zbr k2 s2
 have hw:(k8 line).2.ws.length<9500:=by
  have e1:=zbl (tk0 line);have e2:=zbl (wordF (tk0 line)).2;have e3:=zbl (uq line).2;have e4:(k8 line).2.ws=(wordF (uq line).2).2.ws:=ze9 _;have e5:=(zhd 32 (cutN line).1).1;have e6:=zfz line;have e7:(tk0 line).ws=splitB 32 (cutN line).1:=rfl;rw[e4];rw[e7]at e1;unfold uq at e3⊢;omega
 have h:=yz3 os hp hn (cutN line).2 ((wordF (tk0 line)).1==zah) (uq line).1 (k8 line).1 env he (k8 line).2.ws.length (k8 line).2 [] (Nat.le_refl _) (by simp;omega) k3 s3;unfold u1;cases os with
 |nil=>rw[yu2 line hl env he];exact h
 |cons o0 os=>rw[yu1 o0 os line hl env he];exact h
def zad(env:Den.Env)(H:zw)(J:Option Code):Own:=⟨93,88,env,H,0,[21],zbb,za6,J.isSome,J,0⟩
theorem xco:T.keep 93 1000000=some [2,3,4,5]:=by kernel_rfl
theorem xhu{env E:Den.Env}{o:Option Out}{J:Option Code}{Hx:zw}(h:zan env o=some (J,E,Hx,0)):∃H' Fz',o=some (.round J,H',Fz',[])∧∃st,gc [2,3,4,5] ⟨93,88,0,env,H',Fz',[]⟩=some st∧st.env=E∧st.H=Hx∧st.Fz=0:=by
 unfold zan at h;split at h
 ·rename_i J' H' Fz'
  cases hg:gc [2,3,4,5] ⟨93,88,0,env,H',Fz',[]⟩with
  |none=>rw[hg]at h;cases h
  |some st=>
   rw[hg]at h;simp only[zo,Option.some.injEq,Prod.mk.injEq]at h;obtain⟨rfl,h2,h3,h4⟩:=h;exact⟨H',Fz',rfl,st,hg,h2,h3,h4⟩
 ·cases h
theorem zp3{os:List V}(hp:pureL os=true)(hn:os.length<10000){line:List UInt8}(hl:line.length<9000){env:Den.Env}(he:vd env){J:Option Code}{Hx:zw}(h:zed os line=some (J,E4,Hx,0)):
  (zy T).yld 0 [.str line] [zad env (u1 os) none]=some (J.isNone,[zad E4 Hx J]):=by
 obtain⟨H',Fz',hr,st,hg,h1,h2,h3⟩:=xhu ((yvn os hp hn line hl env he).trans h);refine zp2 (S:= []) (own:=zad env (u1 os) none) (own':=zad E4 Hx J) rfl (args:= [.str line]) rfl hr ?_;unfold zac;rw[show(zad env (u1 os) none).fn=93 from rfl,xco];show(gc [2,3,4,5] ⟨93,88,0,env,H',Fz',[]⟩).bind _=_;rw[hg];simp only[Option.bind_some,h1,h2,h3];rfl
theorem yq5:vd E4:=⟨rfl,rfl,rfl,rfl⟩
def zf3(line:List UInt8):V:=zjg (uq line).1 (k8 line).1 (lsP line).1
theorem cau_pure(nm:List UInt8)(ch:Nat)(acc:List (Int×Int)):pureV (zjg nm ch acc)=true:=by
 unfold zjg;cases acc with
 |nil=>rfl
 |cons a r=>have:=zna (a::r);unfold pureL at this;simp only[pureV,idsV,xx,List.map_cons,wt,List.nil_append,List.append_nil];simpa using this
def zar:List V→List (List UInt8)→List V×Bool
 |os,[]=>(os,true)
 |os,l::r=>cond (vz l) (os,false) (zar (os++ [zf3 l]) r)
theorem xm5:∀(ls:List (List UInt8)) (os:List V) (env:Den.Env),pureL os=true→os.length+ls.length<10000→(∀l∈ls,l.length<9000)→vd env→
  ∃env',vd env'∧qz T 0 (ls.map .str) [zad env (u1 os) none]=
   some ((zar os ls).2,[cond (zar os ls).2 (zad env' (u1 (zar os ls).1) none) (zad env' (Hst ((zar os ls).1.length:Nat) 25 (zar os ls).1) (some .ret))]):=by
 intro ls
 induction ls with
 |nil=>intro os env _ _ _ he;exact⟨env,he,rfl⟩
 |cons l r ih=>
  intro os env hp hn hl he;simp only[List.length_cons]at hn;simp only[List.map_cons,qz,zar];cases hb:vz l
  ·have hL:zed os l=some (none,E4,Hst 0 0 (os++ [zf3 l]),0):=by unfold zed;rw[hb];rfl
   have hy:=zp3 hp (by omega) (hl l (List.mem_cons_self ..)) he hL
   have hfr:Hst 0 0 (os++ [zf3 l])=u1 (os++ [zf3 l]):=by
    cases os with
    |nil=>rfl
    |cons o0 os=>rfl
   rw[hfr]at hy;obtain⟨env',h1,h2⟩:=ih (os++ [zf3 l]) E4 (by rw[pureL_iff]at hp⊢;intro v hv;rcases List.mem_append.1 hv with hv|hv;exact hp v hv;rw[List.mem_singleton.1 hv];exact cau_pure _ _ _) (by simp;omega) (fun x hx=>hl x (List.mem_cons_of_mem _ hx)) yq5;refine⟨env',h1,?_⟩;simp only[cond_false];rw[hy];exact h2
  ·have hL:zed os l=some (some .ret,E4,Hst (os.length:Nat) 25 os,0):=by unfold zed;rw[hb];rfl
   have hy:=zp3 hp (by omega) (hl l (List.mem_cons_self ..)) he hL;refine⟨E4,yq5,?_⟩;simp only[cond_true,cond_false];rw[hy];rfl
def uf(c:Cz):V:= .agg [.str c.n,.int .i64 c.c,wt 2 (c.l.map jq)]
attribute [go_sem] uf
def zg0(b:Bool)(l:List Cz)(i:Nat):Option Out:=
 (zy T).loop false [.code (.loop zgp),.inBlock 0,.code (.seq zh4 .ret)] ⟨120,38,0,[(3,.map 0),(11,.sl b 3 (l.map uf)),(12,.int .i64 l.length),(13,.int .i64 i)],[.map ((l.take i).map kvC)],0,[]⟩
theorem ys1(b:Bool)(l:List Cz)(hb:l.length<1000000)(hn:∀c∈l,c.n.length<1000000∧c.l.length<1000000):∀i,i≤l.length→zg0 b l i=some (.ret (.int .i64 (fnz (q6 l i (l.drop i)))),[],0,[]):=by
 refine xv l.length ?_ fun i hi ih=> ?_
 ·unfold zg0
  rw[zj];have h1:=xz l.length;simp -implicitDefEqProofs only[go_sem,simprocAttr,h1];simp[fnz,q6]
 ·obtain⟨h1,h2,h3,h4,h5⟩:=zr hi (by omega)
  rw[h5];obtain⟨k1,k2⟩:=hn l[i] (List.getElem_mem hi);have e1:=ypw l[i].n k1;have e2:=ypv ⟨l[i].n,l[i].c,!(l[i].l.map jq).isEmpty,l[i].l⟩ k2;rw[show u2 ⟨l[i].n,l[i].c,!(l[i].l.map jq).isEmpty,l[i].l⟩=u2 l[i]from rfl]at e2;have e3:=ynb (l.take i) l[i].n;have e4:=ymq l[i].n;have ef:=yo1 l i l[i];simp only[x8]at e2;have ed:qi l i l[i]=(l.take i).any fun a=>a.n==l[i].n:=rfl;rw[←ed]at e3;cases h6:(uz l i l[i] !=0)
  ·have h7:uz l i l[i]=0:=by simpa using h6
   have h8:qi l i l[i]=false:=by
    have:=xw.1 h7 (cond (qi l i l[i]) 9 0) (by simp);cases hd:qi l i l[i]with
    |false=>rfl
    |true=>rw[hd]at this;cases this
   have e5:=zqq hi h8;unfold zg0 at ih⊢;rw[zj];rw[h8]at e3 ef;simp only[cond_false]at ef e3;simp -implicitDefEqProofs only[go_sem,simprocAttr,h1,h2,h3,h4,e1,e2,e3,e4,qo,za8,ef,h6,e5,ih,cond_false];simp[fnz,q6,h7]
  ·have h7:uz l i l[i]≠0:=by simpa using h6
   unfold zg0;rw[zj];cases h8:qi l i l[i]
   ·rw[h8]at e3 ef
    simp only[cond_false]at ef e3;simp -implicitDefEqProofs only[go_sem,simprocAttr,h1,h2,h3,h4,e1,e2,e3,e4,qo,za8,ef,h6,cond_false];simp[fnz,q6,h7]
   ·rw[h8]at e3 ef
    simp only[cond_true]at ef e3;simp -implicitDefEqProofs only[go_sem,simprocAttr,h1,h2,h3,h4,e1,e2,e3,e4,qo,za8,ef,h6,cond_true];simp[fnz,q6,h7]
theorem ys3(b:Bool)(l:List Cz)(hb:l.length<1000000)(hn:∀c∈l,c.n.length<1000000∧c.l.length<1000000):(zy T).call 120 [.sl b 3 (l.map uf)] [] 0 []=some (.int .i64 (xa l),[],0,[]):=by
 rw[zoq];have h:=ys1 b l hb hn 0 (by omega);rw[List.drop_zero]at h;unfold zg0 at h;rw[show((0:Nat):Int)=0 from rfl,List.take_zero,List.map_nil]at h;cases h1:decide (8<(l.length:Int))
 ·have h2:¬8<l.length:=by simp at h1;omega
  simp -implicitDefEqProofs only[go_sem,simprocAttr,h,h1];simp[xa,h2]
 ·have h2:8<l.length:=by simp at h1;omega
  simp -implicitDefEqProofs only[go_sem,simprocAttr,h1];simp[xa,h2]
end Go.Den.FaT
namespace Go.Den
open Go
theorem xj3{T:Tab}{ih:Ih}{f:Nat}{args:List V}{k:V→Prog}(h:T.byref f=true)(hy:xj args=true):callP ih T f args k=reachP 10000 (xx args) [] fun ids=>maskP ids 0 0 fun Fz=>rowsP ids [] fun rows=> .stk fun S=>
  optP (ih.call f (qe (idx ids) args) (xm (idx ids) rows) Fz S) fun q=>optP (reach 10000 (List.range ids.length++idsV q.1) [] q.2.1) fun rs=> .base fun b=>
  j5 ids (xm (xq ids (xd ids.length rs) b) (q.2.1.take ids.length)) (jr (xm (xq ids (xd ids.length rs) b) (pick q.2.1 (xd ids.length rs)))
   (jv (xq ids (xd ids.length rs) b) q.2.2.1 rs (.setStk q.2.2.2 (toP (qv T f (xg (xq ids (xd ids.length rs) b) q.1) fun v=>some (k v)))))):=by
 unfold callP;rw[h];simp only[hy,withStk]
theorem zq4{T:Tab}{rnd:Bool}{n f' nt fp:Nat}{env:Den.Env}{H:zw}{Fz:Nat}{S:xc}{f:Operand}{ps:Array Nat}{as' body:Code}{k:List Item}{g:Nat}{caps:List V}
  (hf:St.eval ⟨f',nt,fp,env,H,Fz,S⟩ f= .fn g caps)(hy:xj caps=false)(hb:T.byref g=true)(hps:yg nt ps.toList=true){own':Own}
  (hc:∃v Hx Fx fpx,∀K:V→zw→Nat→xc→FP→Option Out,(callP (zy T) T g (.yld S.length::caps) .ret).go none (onlyRows (xx caps) 0 H) Fz (S++ [⟨f',nt,env,butRows (xx caps) 0 H,Fz,ps.toList,as',body,false,none,fp⟩]) .none K=K v Hx Fx (S++ [own']) fpx):
  runK (zy T) T rnd (n+1) (.code (.rangeFunc f ps as' body)::k) ⟨f',nt,fp,env,H,Fz,S⟩=runK (zy T) T rnd n (match own'.pending with|some c=> .code c::k|none=>k) ⟨own'.fn,own'.nt,fp,own'.env,own'.H,own'.Fz,S⟩:=by
 obtain⟨v,Hx,Fx,fpx,hc⟩:=hc;have h4:znm T (.fn g caps)=true:=hb;obtain⟨h5,h6⟩:=ypn (args:= [.yld S.length]) (g:=g) hy;have h7:idsV (.fn g caps)=xx caps:=by simp[idsV]
 simp only[runK,hps,need,hf,h4,h5,Bool.not_false,h7];simp only[callV,h6,List.cons_append,List.nil_append];rw[hc];simp;cases own'.pending<;>rfl
end Go.Den
namespace Go.Den.FaT
open Go Go.Proofs Go.Den
def zc2(line:List UInt8):Cz:=⟨(uq line).1,(k8 line).1,true,(lsP line).1⟩
def takeC:List Cz→List (List UInt8)→List Cz×Bool
 |os,[]=>(os,true)
 |os,l::r=>cond (vz l) (os,false) (takeC (os++ [zc2 l]) r)
theorem ytf:∀(ls:List (List UInt8)) (os:List Cz),zar (os.map uf) ls=((takeC os ls).1.map uf,(takeC os ls).2):=by
 intro ls
 induction ls with
 |nil=>intro os;rfl
 |cons l r ih=>
  intro os;simp only[zar,takeC];cases vz l
  ·simp only[cond_false]
   rw[←ih,List.map_append];rfl
  ·rfl
theorem znq:∀s:List UInt8,(linesB s).length≤s.length∧∀l∈linesB s,l.length≤s.length
 | []=>by simp[linesB]
 |b::r=>by
  obtain⟨h1,h2⟩:=znq r;unfold linesB;cases hb:(b==10)
  ·simp only
   cases hs:linesB r with
   |nil=>simp
   |cons w ws=>
    rw[hs]at h1 h2;simp only[List.length_cons]at h1⊢;refine⟨by omega,fun x hx=> ?_⟩;rcases List.mem_cons.1 hx with rfl|hx
    ·have:=h2 w (List.mem_cons_self ..);simp;omega
    ·have:=h2 x (List.mem_cons_of_mem _ hx);omega
  ·simp only[List.length_cons]
   refine⟨by omega,fun x hx=> ?_⟩;rcases List.mem_cons.1 hx with rfl|hx
   ·simp
   ·have:=h2 x hx;omega
theorem xdr(s:List UInt8)(hs:s.length<5000)(own:Own)(S1:xc)(b:Bool)(hy:qz T 0 ((linesB s).map .str) [own]=some (b,S1)):
  ∃v Hx Fx fpx,∀K:V→zw→Nat→xc→FP→Option Out,(callP (zy T) T 225 [.yld 0,.ptr 4 0 0] .ret).go none [.dead,.dead,.dead,.dead,.cells true true 9 [.str s]] 0 [own] .none K=K v Hx Fx S1 fpx:=by
 obtain⟨s',R,h⟩:=xkl 0 s (by omega) _ _ _ hy;refine⟨.tup [],[.dead,.dead,.dead,.dead,.cells true true 9 [.str s']],0,⟨16,16,0,true⟩,fun K=> ?_⟩;rw[xj3 zok.1 rfl];simp -implicitDefEqProofs only[go_sem,simprocAttr,h,za9,za1,FP.none]
theorem ywg(s:List UInt8)(hs:s.length<5000)(env:Den.Env)(he:vd env)(hf:xf env 20= .fn 225 [.ptr 4 0 0])(n:Nat)(k:List Item):
  ∃env',vd env'∧runK (zy T) T false (n+1) (.code (.rangeFunc (.tmp 20) #[21] zbb za6)::k) ⟨93,88,0,env,[.cells true true 32 [.sl false 0 []],.cells true true 3 [.int .i64 0],.cells true true 29 [.int .i64 0],.cells true true 32 [.sl false 0 []],.cells true true 9 [.str s]],0,[]⟩=
   cond (takeC [] (linesB s)).2 (runK (zy T) T false n k ⟨93,88,0,env',u1 ((takeC [] (linesB s)).1.map uf),0,[]⟩)
    (runK (zy T) T false n (.code .ret::k) ⟨93,88,0,env',Hst ((takeC [] (linesB s)).1.length:Nat) 25 ((takeC [] (linesB s)).1.map uf),0,[]⟩):=by
 obtain⟨h1,h2⟩:=znq s;obtain⟨env',he',hy⟩:=xm5 (linesB s) [] env rfl (by simp;omega) (fun l hl=>by have:=h2 l hl;omega) he;have ht:=ytf (linesB s) [];simp only[List.map_nil]at ht;rw[ht]at hy;simp only[List.length_map]at hy;have hg:=xdr s hs _ _ _ hy;refine⟨env',he',?_⟩;cases hok:(takeC [] (linesB s)).2
 ·rw[hok]at hg
  simp only[cond_false]at hg⊢;exact zq4 (T:=T) (rnd:=false) (n:=n) (f':=93) (nt:=88) (fp:=0) (env:=env) (H:= [.cells true true 32 [.sl false 0 []],.cells true true 3 [.int .i64 0],.cells true true 29 [.int .i64 0],.cells true true 32 [.sl false 0 []],.cells true true 9 [.str s]]) (Fz:=0) (as':=zbb) (body:=za6) (k:=k) (f:= .tmp 20) (g:=225) (caps:= [.ptr 4 0 0]) (S:= []) (ps:= #[21]) hf rfl zok.1 rfl (own':=zad env' (Hst ((takeC [] (linesB s)).1.length:Nat) 25 ((takeC [] (linesB s)).1.map uf)) (some .ret)) hg
 ·rw[hok]at hg
  simp only[cond_true]at hg⊢;exact zq4 (T:=T) (rnd:=false) (n:=n) (f':=93) (nt:=88) (fp:=0) (env:=env) (H:= [.cells true true 32 [.sl false 0 []],.cells true true 3 [.int .i64 0],.cells true true 29 [.int .i64 0],.cells true true 32 [.sl false 0 []],.cells true true 9 [.str s]]) (Fz:=0) (as':=zbb) (body:=za6) (k:=k) (f:= .tmp 20) (g:=225) (caps:= [.ptr 4 0 0]) (S:= []) (ps:= #[21]) hf rfl zok.1 rfl (own':=zad env' (u1 ((takeC [] (linesB s)).1.map uf)) none) hg
def zdv(s:List UInt8):V×Int×Int:=
 cond (decide (4096<s.length)) (.sl false 0 [],0,26)<|
 cond (takeC [] (linesB s)).2
  (cond (xa (takeC [] (linesB s)).1 !=0) (.sl false 0 [],(takeC [] (linesB s)).1.length,xa (takeC [] (linesB s)).1) (wt 3 ((takeC [] (linesB s)).1.map uf),0,0))
  (.sl false 0 [],(takeC [] (linesB s)).1.length,25)
theorem yyb(t:Tk):(wordF t).1= []∨(wordF t).1∈t.ws:=by
 obtain⟨b,z,ws,bad⟩:=t
 match ws with
 | []=>exact .inl rfl
 | []::r=>exact .inl rfl
 |(c::w)::r=>exact .inr (List.mem_cons_self ..)
theorem yzx:∀(n:Nat) (t:Tk) (acc:List (Int×Int)),(lossP n t acc).1.length≤acc.length+n:=by
 intro n
 induction n with
 |zero=>intro t acc;simp[lossP]
 |succ n ih=>
  intro t acc;unfold lossP;split
  ·simp
  ·have:=ih (numF (numF t).2).2 (acc++ [(((numF t).1:Int),((numF (numF t).2).1:Int))])
   simp at this;omega
theorem xjx(l:List UInt8)(hl:l.length<9000):(zc2 l).n.length<1000000∧(zc2 l).l.length<1000000:=by
 obtain⟨k0,s0⟩:=zha hl;obtain⟨k1,s1⟩:=zcf k0 s0;refine⟨?_,?_⟩
 ·rcases yyb (wordF (tk0 l)).2 with h|h
  ·show(uq l).1.length<_;unfold uq;rw[h];simp
  ·exact s1 _ h
 ·have h1:=yzx (k8 l).2.ws.length (k8 l).2 []
  have e1:=zbl (tk0 l);have e2:=zbl (wordF (tk0 l)).2;have e3:=zbl (uq l).2;have e4:(k8 l).2.ws=(wordF (uq l).2).2.ws:=ze9 _;have e5:=(zhd 32 (cutN l).1).1;have e6:=zfz l;have e7:(tk0 l).ws=splitB 32 (cutN l).1:=rfl;rw[e7]at e1;unfold uq at e3 e4;simp only[List.length_nil]at h1;show(lsP l).1.length<_;unfold lsP;rw[e4]at h1⊢;omega
theorem yth:∀(ls:List (List UInt8)) (os:List Cz),(takeC os ls).1.length≤os.length+ls.length∧((∀c∈os,c.n.length<1000000∧c.l.length<1000000)→(∀l∈ls,l.length<9000)→∀c∈(takeC os ls).1,c.n.length<1000000∧c.l.length<1000000):=by
 intro ls
 induction ls with
 |nil=>intro os;exact⟨by simp[takeC],fun h _=>h⟩
 |cons l r ih=>
  intro os;simp only[takeC];cases vz l
  ·obtain⟨h1,h2⟩:=ih (os++ [zc2 l])
   simp only[cond_false];refine⟨by simp at h1⊢;omega,fun h hl=>h2 (fun c hc=> ?_) fun x hx=>hl x (List.mem_cons_of_mem _ hx)⟩;rcases List.mem_append.1 hc with hc|hc
   ·exact h c hc
   ·rw[List.mem_singleton.1 hc];exact xjx l (hl l (List.mem_cons_self ..))
  ·exact⟨by simp,fun h _=>h⟩
theorem yte(s:List UInt8)(hs:s.length<5000):(takeC [] (linesB s)).1.length<1000000∧∀c∈(takeC [] (linesB s)).1,c.n.length<1000000∧c.l.length<1000000:=by
 obtain⟨h1,h2⟩:=yth (linesB s) [];obtain⟨h3,h4⟩:=znq s;exact⟨by simp at h1;omega,h2 (fun c hc=>by cases hc) fun l hl=>by have:=h4 l hl;omega⟩
theorem c93(s:List UInt8)(hs:s.length<5000):(zy T).call 93 [.str s] [] 0 []=some (.tup [(zdv s).1,.int .i64 (zdv s).2.1,.int .i64 (zdv s).2.2],[],0,[]):=by
 rw[xfc];unfold zdv
 have h0:decide (4096<(s.length:Int))=decide (4096<s.length):=by
  rw[Bool.eq_iff_iff];simp only[decide_eq_true_iff];omega
 have h1:=xld s;cases hl:decide (4096<s.length)
 ·rw[hl]at h0
  simp -implicitDefEqProofs only[go_sem,simprocAttr,h0,h1,zb4,za9,za1]
  obtain⟨env',⟨e2,e3,e4,e5⟩,hr⟩:=ywg s hs [(20,.fn 225 [.ptr 4 0 0]),(19,.str s),(5,.ptr 3 0 0),(18,.bool false),(17,.int .i64 s.length),(16,.str s),(4,.ptr 2 0 0),(3,.ptr 1 0 0),(2,.ptr 0 0 0),(0,.str s)] ⟨rfl,rfl,rfl,rfl⟩ rfl 99986
   [.inBlock 0,.code ((r93_20.seq (r93_21.seq (Code.cond (Operand.tmp 83) (r93_22.seq Code.ret) Code.skip))).seq (r93_23.seq Code.ret))]
  rw[hr];have hfit:=yte s hs;generalize takeC [] (linesB s)=q at*;obtain⟨os,ok⟩:=q;cases ok
  ·simp only[cond_false]
   simp -implicitDefEqProofs only[go_sem,simprocAttr,Hst,e2,e3,e4,e5]
  ·simp only[cond_true]
   cases os with
   |nil=>
    have hc:(zy T).call 120 [.sl false 0 []] [] 0 []=some (.int .i64 0,[],0,[]):=by
     rw[zoq];simp -implicitDefEqProofs only[go_sem,simprocAttr];rw[zj];simp -implicitDefEqProofs only[go_sem,simprocAttr]
    simp -implicitDefEqProofs only[go_sem,simprocAttr,u1,v7,vi,List.map_nil,hc,e2,e3,e4,e5];rfl
   |cons o os=>
    have hc:=ys3 true (o::os) (by simpa using hfit.1) hfit.2;rw[List.map_cons]at hc⊢;have hc:(zy T).call 120 [.sl true 3 (.agg [.str o.n,.int .i64 o.c,wt 2 (o.l.map jq)]::os.map uf)] [] 0 []=some (.int .i64 (xa (o::os)),[],0,[]):=hc;cases he:(xa (o::os) !=0)
    ·simp -implicitDefEqProofs only[go_sem,simprocAttr,u1,v7,vi,hc,he,e2,e3,e4,e5]
     try rfl
    ·simp -implicitDefEqProofs only[go_sem,simprocAttr,u1,v7,vi,hc,he,e2,e3,e4,e5]
     try rfl
 ·rw[hl]at h0
  simp -implicitDefEqProofs only[go_sem,simprocAttr,h0]
  try rfl
def za2(s:List UInt8):Option Nat:=cond (s.isEmpty||(decide (9<s.length)||we s)) none (ja false 0 s)
def pairs:List Int→List (Int×Int)
 |x::y::r=>(x,y)::pairs r
 |_=> []
def vf:List (List UInt8)→Option (List Int)
 | []=>some []
 |s::r=>match za2 s with
  |none=>none
  |some n=>(match vf r with|none=>none|some l=>some ((n:Int)::l))
def yk:List (List UInt8)→Option Cz
 |w0::w1::w2::r=>cond ((r.length %2==0)&&(w0==zah&& !(w1== []))) (match vf (w2::r)with
  |some (x::l)=>some ⟨w1,x,true,pairs l⟩
  |_=>none) none
 |_=>none
theorem ys0{t:Tk}(h:t.bad=true):(wordF t).2.bad=true:=by
 obtain⟨b,z,ws,bad⟩:=t
 match ws with
 | []=>rfl
 | []::r=>rfl
 |(c::w)::r=>exact h
theorem zdy{t:Tk}(h:t.bad=true):(numF t).2.bad=true:=by
 have:=ys0 h;unfold numF yr;split
 ·rfl
 ·simp[this]
theorem zcj:∀(n:Nat) (t:Tk) (acc:List (Int×Int)),t.bad=true→(lossP n t acc).2.bad=true:=by
 intro n
 induction n with
 |zero=>intro t acc h;exact h
 |succ n ih=>
  intro t acc h;unfold lossP;split
  ·exact h
  ·exact ih _ _ (zdy (zdy h))
theorem xdp{c:UInt8}{r:List UInt8}(n:Nat):ja true n (c::r)=none:=by simp[ja]
theorem zid(b:Bool)(z:Nat)(s:List UInt8)(r:List (List UInt8)):match za2 s with
  |none=>(numF ⟨b,z,s::r,false⟩).2.bad=true
  |some n=>numF ⟨b,z,s::r,false⟩=(n,⟨b,z,r,false⟩):=by
 cases s with
 |nil=>rfl
 |cons c s=>
  have e:numF ⟨b,z,(c::s)::r,false⟩=yr ⟨b,z,r,false⟩ (c::s) (ja (decide (9<(c::s).length)) 0 (c::s)):=rfl;rw[e];unfold za2;have e2:(c::s).isEmpty=false:=rfl;rw[e2,Bool.false_or];cases hl:decide (9<(c::s).length)
  ·rw[Bool.false_or]
   cases hz:we (c::s)
   ·simp only[cond_false]
    cases hg:ja false 0 (c::s)with
    |none=>rfl
    |some n=>simp[yr,hz]
   ·simp only[cond_true]
    cases hg:ja false 0 (c::s)with
    |none=>rfl
    |some n=>simp[yr,hz]
  ·rw[Bool.true_or,xdp]
   rfl
theorem yzy(b:Bool)(z:Nat):∀(k:Nat) (ws:List (List UInt8)),ws.length≤k→∀(n:Nat) (acc:List (Int×Int)),ws.length≤n→
  match cond (ws.length %2==0) (vf ws) none with
  |none=>(lossP n ⟨b,z,ws,false⟩ acc).2.bad=true
  |some l=>(lossP n ⟨b,z,ws,false⟩ acc).1=acc++pairs l∧(lossP n ⟨b,z,ws,false⟩ acc).2.bad=false:=by
 intro k
 induction k using Nat.strongRecOn with
 |_ k ih=>
  intro ws hk n acc hn
  match ws,hk,hn with
  | [],_,_=>
   have e:lossP n ⟨b,z,[],false⟩ acc=(acc,⟨b,z,[],false⟩):=by cases n<;>rfl
   rw[e];simp[vf,pairs]
  | [s],_,hn=>
   cases n with
   |zero=>simp at hn
   |succ n=>
    show(lossP (n+1) ⟨b,z,[s],false⟩ acc).2.bad=true;have e:lossP (n+1) ⟨b,z,[s],false⟩ acc=lossP n (numF (numF ⟨b,z,[s],false⟩).2).2 (acc++ [(((numF ⟨b,z,[s],false⟩).1:Int),((numF (numF ⟨b,z,[s],false⟩).2).1:Int))]):=rfl;rw[e];refine zcj _ _ _ ?_;have h:=zid b z s [];cases hd:za2 s with
    |none=>rw[hd]at h;exact zdy h
    |some m=>rw[hd]at h;simp only at h;rw[h];rfl
  |s1::s2::r,hk,hn=>
   cases n with
   |zero=>simp at hn
   |succ n=>
    have e:lossP (n+1) ⟨b,z,s1::s2::r,false⟩ acc=lossP n (numF (numF ⟨b,z,s1::s2::r,false⟩).2).2 (acc++ [(((numF ⟨b,z,s1::s2::r,false⟩).1:Int),((numF (numF ⟨b,z,s1::s2::r,false⟩).2).1:Int))]):=rfl;rw[e]
    have hp:((s1::s2::r).length %2==0)=(r.length %2==0):=by
     rw[Bool.eq_iff_iff];simp only[List.length_cons,beq_iff_eq];omega
    rw[hp];simp only[List.length_cons]at hk hn;have h1:=zid b z s1 (s2::r);simp only[vf];cases hd:za2 s1 with
    |none=>
     rw[hd]at h1;have hb:=zcj n _ (acc++ [(((numF ⟨b,z,s1::s2::r,false⟩).1:Int),((numF (numF ⟨b,z,s1::s2::r,false⟩).2).1:Int))]) (zdy h1);cases (r.length %2==0)<;>exact hb
    |some m1=>
     rw[hd]at h1;simp only at h1⊢;rw[h1];have h2:=zid b z s2 r;cases hd2:za2 s2 with
     |none=>
      rw[hd2]at h2;have hb:=zcj n _ (acc++ [((m1:Int),((numF ⟨b,z,s2::r,false⟩).1:Int))]) h2;cases (r.length %2==0)<;>exact hb
     |some m2=>
      rw[hd2]at h2;simp only at h2⊢;rw[h2];have h3:=ih (k- 1) (by omega) r (by omega) n (acc++ [((m1:Int),(m2:Int))]) (by omega);cases hp2:(r.length %2==0)
      ·rw[hp2]at h3
       exact h3
      ·rw[hp2]at h3
       simp only[cond_true]at h3⊢;cases ha:vf r with
       |none=>rw[ha]at h3;exact h3
       |some l=>
        rw[ha]at h3;simp only[pairs]at h3⊢;refine⟨?_,h3.2⟩;rw[h3.1,List.append_assoc];rfl
theorem xb1(r:List UInt8):match yk (splitB 32 r)with
  |none=>vz (r++ [10])=true
  |some c=>vz (r++ [10])=false∧zc2 (r++ [10])=c:=by
 have hc:cutN (r++ [10])=(r,true):=by rw[zov];rfl
 have ht:tk0 (r++ [10])=⟨true,1,splitB 32 r,false⟩:=by unfold tk0;rw[hc]
 have hb:vz (r++ [10])=(!((wordF (tk0 (r++ [10]))).1==zah)||(lsP (r++ [10])).2.bad):=by unfold vz;rw[hc];rfl
 have hls:lsP (r++ [10])=lossP (k8 (r++ [10])).2.ws.length (k8 (r++ [10])).2 []:=rfl;have hch:k8 (r++ [10])=numF (uq (r++ [10])).2:=rfl;have hnm:uq (r++ [10])=wordF (wordF (tk0 (r++ [10]))).2:=rfl;have hcau:zc2 (r++ [10])=⟨(uq (r++ [10])).1,(k8 (r++ [10])).1,true,(lsP (r++ [10])).1⟩:=rfl;rw[ht]at hb hnm;have hne:=zqi 32 r;generalize splitB 32 r=w at*
 match w,hne with
 | []::rest,_=>
  have h1:vz (r++ [10])=true:=by rw[hb];rfl
  have h2:yk ([]::rest)=none:=by
   match rest with
   | []=>rfl
   | [a]=>rfl
   |a::b::l=>simp[yk,zah]
  rw[h2];exact h1
 |(c::w0)::rest,_=>
  have e0:wordF ⟨true,1,(c::w0)::rest,false⟩=(c::w0,⟨true,1,rest,false⟩):=rfl;rw[e0]at hb hnm;simp only at hb hnm;cases hh:(c::w0==zah)
  ·have h1:vz (r++ [10])=true:=by rw[hb,hh];rfl
   have h2:yk ((c::w0)::rest)=none:=by
    match rest with
    | []=>rfl
    | [a]=>rfl
    |a::b::l=>simp[yk,hh]
   rw[h2];exact h1
  ·rw[hh]at hb
   simp only[Bool.not_true,Bool.false_or]at hb
   match rest with
   | []=>
    show vz (r++ [10])=true;rw[hb,hls];refine zcj _ _ _ ?_;rw[hch];refine zdy ?_;rw[hnm];rfl
   | []::l=>
    have h2:yk ((c::w0):: []::l)=none:=by
     match l with
     | []=>rfl
     |a::b=>simp[yk]
    rw[h2];show vz (r++ [10])=true;rw[hb,hls];refine zcj _ _ _ ?_;rw[hch];refine zdy ?_;rw[hnm];rfl
   |(d::w1)::l=>
    have e1:wordF ⟨true,1,(d::w1)::l,false⟩=(d::w1,⟨true,1,l,false⟩):=rfl;rw[e1]at hnm;rw[hnm]at hch hcau;simp only at hch hcau
    match l with
    | []=>
     show vz (r++ [10])=true;rw[hb,hls];refine zcj _ _ _ ?_;rw[hch];rfl
    |s::l=>
     have hR:yk ((c::w0)::(d::w1)::s::l)=cond (l.length %2==0) (match vf (s::l)with|some (x::l)=>some ⟨d::w1,x,true,pairs l⟩|_=>none) none:=by
      simp[yk,hh]<;>rfl
     rw[hR];have hd:=zid true 1 s l;cases hq:za2 s with
     |none=>
      rw[hq]at hd;have e3:vf (s::l)=none:=by simp[vf,hq]
      have hbad:vz (r++ [10])=true:=by
       rw[hb,hls];refine zcj _ _ _ ?_;rw[hch];exact hd
      rw[e3];cases (l.length %2==0)<;>exact hbad
     |some n=>
      rw[hq]at hd;simp only at hd;rw[hd]at hch;rw[hch]at hls hcau;simp only at hls hcau;have hL:=yzy true 1 l.length l (Nat.le_refl _) l.length [] (Nat.le_refl _);cases hp:(l.length %2==0)
      ·rw[hp]at hL
       simp only[cond_false]at hL⊢;rw[hb,hls];exact hL
      ·rw[hp]at hL
       simp only[cond_true]at hL⊢;simp only[vf,hq];cases ha:vf l with
       |none=>
        rw[ha]at hL;simp only at hL⊢;rw[hb,hls];exact hL
       |some m=>
        rw[ha]at hL;simp only[List.nil_append]at hL⊢;refine⟨by rw[hb,hls];exact hL.2,?_⟩;rw[hcau,hls,hL.1]
def dg(x:Int):List UInt8:=digits 20 x.toNat
theorem you{x:Int}(h0:0≤x)(h1:x<1000000000000):dg x=Lib.decDigits x.toNat:=by
 unfold dg;rw[yon 20 x.toNat (by omega),if_neg (by omega)]
theorem zn2{x:Int}(h0:0≤x)(h1:x<1000000000000):zcn [.int .i64 x]=some (.str (dg x)):=by
 obtain⟨v,rfl⟩:∃v:Nat,x=(v:Int):=⟨x.toNat,by omega⟩;show(match Nat.ble v 9223372036854775807 with|true=>some (V.str (digits 20 v))|false=>none)=_;rw[Nat.ble_eq_true_of_le (by omega)];rfl
def ur:List (Int×Int)→List (List UInt8)
 | []=> []
 |x::r=>dg x.1::dg x.2::ur r
def nnI(x:Int):Prop:=0≤x∧x<1000000000000
def Cz.nn(c:Cz):Prop:=nnI c.c∧c.n.length<1000000∧c.l.length<100000∧∀x∈c.l,nnI x.1∧nnI x.2
def jg(c:Cz):List (List UInt8):= [99,97,117,115,101]::c.n::dg c.c::ur c.l
def lineS(c:Cz):List UInt8:=xi [32] (jg c)++ [10]
theorem zjb(x:Int):(dg x).length≤20:=by
 unfold dg
 have:∀f n,(digits f n).length≤f:=by
  intro f
  induction f with
  |zero=>intro n;simp[digits]
  |succ f ih=>
   intro n;unfold digits;split
   ·have:=ih (n/10);simp;omega
   ·simp
 exact this 20 _
theorem zit:∀l:List (Int×Int),(ur l).length=2*l.length
 | []=>rfl
 |x::r=>by have:=zit r;simp[ur];omega
theorem zn1:∀l:List (Int×Int),∀w∈ur l,w.length≤20
 | [],w,h=>by cases h
 |x::r,w,h=>by
  rcases List.mem_cons.1 h with rfl|h
  ·exact zjb _
  ·rcases List.mem_cons.1 h with rfl|h
   ·exact zjb _
   ·exact zn1 r w h
theorem zny(sep:List UInt8)(M:Nat):∀ws:List (List UInt8),(∀w∈ws,w.length≤M)→(xi sep ws).length≤ws.length*(M+sep.length)
 | [],_=>by simp[xi]
 | [w],h=>by have:=h w (List.mem_cons_self ..);simp[xi];omega
 |w::w2::r,h=>by
  have h1:=h w (List.mem_cons_self ..);have h2:=zny sep M (w2::r) fun x hx=>h x (List.mem_cons_of_mem _ hx);simp only[xi,List.length_append,List.length_cons]at h2⊢;rw[Nat.succ_mul (r.length+1)];omega
theorem zqe:∀ws:List (List UInt8),yw (ws.map V.str)=some ws
 | []=>rfl
 |w::r=>by simp[yw,zqe r]
theorem ymt{b:Bool}{z:Nat}{ws:List (List UInt8)}{sep:List UInt8}(h1:ws.length≤140737488355328)(h2:(xi sep ws).length≤140737488355328):zbu [.sl b z (ws.map .str),.str sep]=some (.str (xi sep ws)):=by
 show(match yw (ws.map V.str)with|some ss=>(match Nat.ble (ws.map V.str).length 140737488355328&&Nat.ble (xi sep ss).length 140737488355328 with|true=>some (V.str (xi sep ss))|false=>none)|none=>none)=_;rw[zqe];simp only;rw[Nat.ble_eq_true_of_le (by simpa using h1),Nat.ble_eq_true_of_le h2];rfl
def zg2(c:Cz)(i:Nat)(ws:List (List UInt8)):Option Out:=
 (zy T).loop false [.code (.loop zke),.inBlock 0,.code (.seq zmn .ret)] ⟨175,32,0,[(3,.ref 0),(13,.sl c.b 2 (c.l.map jq)),(14,.int .i64 c.l.length),(15,.int .i64 i)],[.cells false true 9 (ws.map .str)],0,[]⟩
theorem xa0(c:Cz)(hc:c.nn):∀i,i≤c.l.length→∀ws:List (List UInt8),ws.length≤2*i+3→(xi [32] (ws++ur (c.l.drop i))).length<1000000000000→
  zg2 c i ws=some (.ret (.str (xi [32] (ws++ur (c.l.drop i))++ [10])),[],0,[]):=by
 obtain⟨h1,h2,h3,h4⟩:=hc;refine xv c.l.length ?_ fun i hi ih=> ?_
 ·intro ws hw hj
  rw[List.drop_length]at hj⊢;simp only[ur,List.append_nil]at hj⊢;have q1:=xz c.l.length;have q2:=ymt (b:=true) (z:=1) (ws:=ws) (sep:= [32]) (by omega) (by omega);have q3:decide ((xi [32] ws).length+1<zfc)=true:=by rw[decide_eq_true_iff];unfold zfc;omega
  unfold zg2;rw[zj];simp -implicitDefEqProofs only[go_sem,simprocAttr,q1,q2,q3]
 ·intro ws hw hj
  obtain⟨q1,q2,q3,q4,q5⟩:=zr hi (by omega);obtain⟨n1,n2⟩:=h4 _ (List.getElem_mem hi);have e1:=zn2 n1.1 n1.2;have e2:=zn2 n2.1 n2.2;rw[q5]at hj⊢;simp only[ur]at hj⊢;have ea:∀r:List (List UInt8),ws++dg c.l[i].1::dg c.l[i].2::r=(ws++ [dg c.l[i].1,dg c.l[i].2])++r:=by intro r;simp
  rw[ea]at hj⊢;rw[←ih _ (by simp;omega) hj];have h8:decide (ws.length+2<maxRow)=true:=by rw[decide_eq_true_iff];unfold maxRow;omega
  conv=>lhs;unfold zg2;rw[zj]
  unfold zg2;simp -implicitDefEqProofs only[go_sem,simprocAttr,q1,q2,q3,q4,e1,e2,h8,List.map_append,List.map_cons,List.map_nil]
theorem ysy(c:Cz)(hc:c.nn):(xi [32] (jg c)).length<1000000000000∧(jg c).length<300000:=by
 obtain⟨h1,h2,h3,h4⟩:=hc;have hl:(jg c).length=2*c.l.length+3:=by simp[jg,zit]
 have hj:=zny [32] 1000000 (jg c) (fun w hw=>by
  unfold jg at hw;rcases List.mem_cons.1 hw with rfl|hw
  ·simp
  rcases List.mem_cons.1 hw with rfl|hw
  ·omega
  rcases List.mem_cons.1 hw with rfl|hw
  ·have:=zjb c.c;omega
  ·have:=zn1 c.l w hw;omega)
 have:(jg c).length*(1000000+1)≤300000*1000001:=Nat.mul_le_mul_right _ (by omega);simp only[List.length_singleton]at hj;exact⟨by omega,by omega⟩
theorem xle(c:Cz)(hc:c.nn):(zy T).call 175 [x8 c] [] 0 []=some (.str (lineS c),[],0,[]):=by
 have hj:=(ysy c hc).1;have h:=xa0 c hc 0 (by omega) [[99,97,117,115,101],c.n,dg c.c] (by simp) (by rw[List.drop_zero];exact hj);rw[List.drop_zero]at h;have e1:=zn2 hc.1.1 hc.1.2;unfold zg2 at h;simp only[List.map_cons,List.map_nil,show((0:Nat):Int)=0 from rfl]at h;rw[xgt];simp -implicitDefEqProofs only[go_sem,simprocAttr,h,e1];rfl
theorem xa1(b:Bool)(l:List Cz)(hb:l.length<1000000)(hn:∀c∈l,c.nn):∀i,i≤l.length→∀o:Option (List (List UInt8)),ka o=i→
  (zy T).loop false [.code (.loop zgl),.inBlock 0,.code (.seq zhz .ret)] ⟨174,22,0,[(1,.fn 175 []),(5,kp o 0),(8,.sl b 3 (l.map x8)),(9,.int .i64 l.length),(10,.int .i64 i)],kc .str o 9,0,[]⟩=
   some (.ret (vv .str 0 1 (qj o ((l.drop i).map lineS))),[],0,[]):=by
 refine xv l.length ?_ fun i hi ih=> ?_
 ·intro o ho
  rw[zj];have h1:=xz l.length;cases o with
  |none=>
   simp -implicitDefEqProofs only[go_sem,simprocAttr,h1];simp[qj,vv]
  |some a=>
   simp -implicitDefEqProofs only[go_sem,simprocAttr,h1];simp[qj,vv]
 ·intro o ho
  obtain⟨h1,h2,h3,h4,h5⟩:=zr hi (by omega);rw[zj,h5];have ih':=ih (qj o [lineS l[i]]) (by rw[jz,ho];rfl);rw[jx]at ih';have hc:=xle l[i] (hn _ (List.getElem_mem hi));simp only[x8]at hc;cases o with
  |none=>
   have h8:=ze (n:=0) (by omega);simp only[jy,zi,z6,List.map_cons,List.map_nil]at ih';simp -implicitDefEqProofs only[go_sem,simprocAttr,h1,h2,h3,h4,ih',h8.2,hc]
   try simp
  |some a=>
   have h9:a.length=i:=ho;have h8:=(ze (n:=a.length) (by omega)).1;simp only[qd,zi,z6,List.map_append,List.map_cons,List.map_nil]at ih';simp -implicitDefEqProofs only[go_sem,simprocAttr,h1,h2,h3,h4,ih',h8,hc]
   try simp
theorem xlf(b:Bool)(l:List Cz)(hb:l.length<1000000)(hn:∀c∈l,c.nn):(zy T).call 174 [.sl b 3 (l.map x8),.fn 175 []] [] 0 []=some (wt 1 ((l.map lineS).map .str),[],0,[]):=by
 rw[zoo];have h:=xa1 b l hb hn 0 (by omega) none rfl;rw[show((0:Nat):Int)=0 from rfl,List.drop_zero,ji]at h;simp only[xk,xu]at h;simp -implicitDefEqProofs only[go_sem,simprocAttr,h]
def czN(c:Cz):V:= .agg [.str c.n,.int .i64 c.c,.sl (!(c.l.map jq).isEmpty) 2 (c.l.map jq)]
attribute [go_sem] czN
theorem yws(b:Bool)(l:List Cz)(hb:l.length<1000000):∀i,i≤l.length→∀o:Option (List Cz),ka o=i→
  (zy T).loop false [.code (.loop zge),.inBlock 0,.code (.seq zhr .ret)] ⟨97,18,0,[(3,kp o 0),(6,.sl b 3 (l.map uf)),(7,.int .i64 l.length),(8,.int .i64 i)],kc czN o 140,0,[]⟩=
   some (.ret (vv czN 0 3 (qj o (l.drop i))),[],0,[]):=by
 refine xv l.length ?_ fun i hi ih=> ?_
 ·intro o ho
  rw[zj];have h1:=xz l.length;cases o with
  |none=>
   simp -implicitDefEqProofs only[go_sem,simprocAttr,h1];simp[qj,vv]
  |some a=>
   simp -implicitDefEqProofs only[go_sem,simprocAttr,h1];simp[qj,vv]
 ·intro o ho
  obtain⟨h1,h2,h3,h4,h5⟩:=zr hi (by omega);rw[zj,h5];have ih':=ih (qj o [l[i]]) (by rw[jz,ho];rfl);rw[jx]at ih';cases o with
  |none=>
   have h8:=ze (n:=0) (by omega);simp only[jy,zi,z6,List.map_cons,List.map_nil,czN]at ih';simp -implicitDefEqProofs only[go_sem,simprocAttr,h1,h2,h3,h4,ih',h8.2]
   try simp
  |some a=>
   have h9:a.length=i:=ho;have h8:=(ze (n:=a.length) (by omega)).1;simp only[qd,zi,z6,List.map_append,List.map_cons,List.map_nil,czN]at ih';simp -implicitDefEqProofs only[go_sem,simprocAttr,h1,h2,h3,h4,ih',h8]
   try simp
theorem p97(b:Bool)(l:List Cz)(hb:l.length<1000000):(zy T).call 97 [.sl b 3 (l.map uf)] [] 0 []=some (wt 3 (l.map czN),[],0,[]):=by
 rw[yn4];have h:=yws b l hb 0 (by omega) none rfl;rw[show((0:Nat):Int)=0 from rfl,List.drop_zero,ji]at h;simp only[xk,xu]at h;simp -implicitDefEqProofs only[go_sem,simprocAttr,h]
def printS(l:List Cz):List UInt8:=(l.map lineS).flatten
theorem ymu:∀ws:List (List UInt8),xi [] ws=ws.flatten
 | []=>rfl
 | [w]=>by simp[xi]
 |w::v::r=>by rw[xi,ymu (v::r)];simp;exact fun h=>by cases h
theorem zjk(x:Int):(zy T).call 234 [.int .i64 x] [] 0 []=some (.bool false,[],0,[]):=by
 rw[xfs];have h:(x !=x)=false:=by simp
 simp -implicitDefEqProofs only[go_sem,simprocAttr,h]
theorem ypq(x y:Int):(zy T).call 275 [.int .i64 x,.int .i64 y] [] 0 []=some (.bool (decide (x<y)),[],0,[]):=by
 rw[xfo];simp -implicitDefEqProofs only[go_sem,simprocAttr,zjk]
def jo(x:Int):List Int→List Int
 | []=> [x]
 |p::r=>if x<p then p::jo x r else x::p::r
def zdj(acc:List Int):List Int→List Int
 | []=>acc
 |x::r=>zdj (jo x acc) r
def u4(l:List Int):List Int:=(zdj [] l).reverse
theorem zn5(x:Int)(l:List Int):(jo x l).length=l.length+1:=by
 induction l with
 |nil=>rfl
 |cons p r ih=>simp only[jo];split<;>simp[ih]
theorem ymz(x:Int)(l:List Int):(jo x l).Perm (x::l):=by
 induction l with
 |nil=>exact .refl _
 |cons p r ih=>
  simp only[jo];split
  ·exact(ih.cons p).trans (.swap x p r)
  ·exact .refl _
theorem xc5(x:Int)(l:List Int)(h:l.Pairwise (· ≥ ·)):(jo x l).Pairwise (· ≥ ·):=by
 induction l with
 |nil=>simp[jo]
 |cons p r ih=>
  rw[List.pairwise_cons]at h;simp only[jo];split
  ·rename_i hx
   rw[List.pairwise_cons];refine⟨fun y hy=> ?_,ih h.2⟩;rcases List.mem_cons.1 ((ymz x r).mem_iff.1 hy)with rfl|hy
   ·omega
   ·exact h.1 y hy
  ·rename_i hx
   rw[List.pairwise_cons,List.pairwise_cons];refine⟨fun y hy=> ?_,h⟩;rcases List.mem_cons.1 hy with rfl|hy
   ·omega
   ·have:=h.1 y hy;omega
theorem zqg:∀(l acc:List Int),acc.Pairwise (· ≥ ·)→(zdj acc l).Pairwise (· ≥ ·)∧(zdj acc l).Perm (l++acc)
 | [],acc,h=>⟨h,.refl _⟩
 |x::r,acc,h=>by
  obtain⟨h1,h2⟩:=zqg r (jo x acc) (xc5 x acc h);refine⟨h1,h2.trans ?_⟩;have:=(ymz x acc).append_left r;exact this.trans List.perm_middle
theorem yt7(l:List Int):(u4 l).Perm l:=by
 unfold u4;have:=(zqg l [] List.Pairwise.nil).2;rw[List.append_nil]at this;exact(List.reverse_perm _).trans this
theorem xdt(R Q:List Int)(x:Int):(R.reverse++x::Q)[R.length]? =some x:=by
 rw[List.getElem?_append_right (by simp)];simp
theorem xdu(R Q:List Int)(p x:Int):((p::R).reverse++x::Q)[R.length]? =some p:=by
 rw[List.reverse_cons,List.append_assoc,List.getElem?_append_right (by simp)];simp
theorem ytm(R Q:List Int)(p x:Int):(((p::R).reverse++x::Q).set (R.length+1) p).set R.length x=R.reverse++x::p::Q:=by
 rw[List.reverse_cons,List.append_assoc,List.set_append_right _ _ (by simp),List.set_append_right _ _ (by simp)];simp
def zep(l:List Int)(n i j:Nat):Option Out:=
 (zy T).loop false [.code (.loop zjw),.inBlock 2,.inBlock 1,.code zl3,.inLoop zgh,.inBlock 0]
  ⟨269,49,1,[(0,.ref 0),(1,.int .i64 0),(2,.int .i64 n),(6,.int .i64 i),(7,.int .i64 j)],[.cells false true 3 (l.map zx)],0,[]⟩
def zb9(l:List Int)(n i:Nat):Option Out:=
 (zy T).loop false [.code (.loop zgh),.inBlock 0]
  ⟨269,49,1,[(0,.ref 0),(1,.int .i64 0),(2,.int .i64 n),(6,.int .i64 i)],[.cells false true 3 (l.map zx)],0,[]⟩
theorem xab(n i:Nat)(hn:n<1000000)(hi:i<1000000)(x:Int):∀(R Q:List Int),(R.reverse++x::Q).length<1000000→zep (R.reverse++x::Q) n i R.length=zb9 ((jo x R).reverse++Q) n (i+1):=by
 intro R
 induction R with
 |nil=>
  intro Q hl;unfold zep;rw[zj];have h4:IntKind.i64.wrap ((i:Int)+1)=((i+1:Nat):Int):=by rw[wrap64]<;>omega
  simp only[List.length_nil,jo,List.reverse_nil,List.nil_append,List.reverse_cons,List.cons_append];unfold zb9;simp -implicitDefEqProofs only[go_sem,simprocAttr,h4]
 |cons p R ih=>
  intro Q hl;have g1:=xdt (p::R) Q x;have g2:=xdu R Q p x;have g3:=ytm R Q p x;have hll:((p::R).reverse++x::Q).length=R.length+2+Q.length:=by simp;omega
  rw[hll]at hl;have w1:IntKind.i64.wrap (((R.length+1:Nat):Int)- 1)=(R.length:Int):=by rw[wrap64]<;>omega
  have w2:IntKind.i64.wrap ((i:Int)+1)=((i+1:Nat):Int):=by rw[wrap64]<;>omega
  have d1:decide (0<((R.length+1:Nat):Int))=true:=decide_eq_true (by omega);have d2:decide (0≤((R.length+1:Nat):Int)∧((R.length+1:Nat):Int)<(((p::R).reverse++x::Q).length:Int))=true:=by rw[hll];exact decide_eq_true (by omega)
  have d3:decide (0≤(R.length:Int)∧(R.length:Int)<(((p::R).reverse++x::Q).length:Int))=true:=by rw[hll];exact decide_eq_true (by omega)
  have ih':=ih (p::Q) (by simp at*;omega);rw[←g3]at ih';rw[List.length_cons]at g1⊢;generalize hL:(p::R).reverse++x::Q=L at*;have d4:R.length<L.length:=by rw[hll];omega
  have d5:R.length+1<L.length:=by rw[hll];omega
  have g4:((L.map zx).set (R.length+1) (.int .i64 p))[R.length]? =some (.int .i64 p):=by
   rw[List.getElem?_set_ne (by omega),List.getElem?_map,g2];rfl
  unfold zep;rw[zj];cases hx:decide (x<p)
  ·have hx':¬x<p:=by simpa using hx
   have e:(jo x (p::R)).reverse++Q=L:=by simp only[jo,if_neg hx'];rw[←hL];simp
   rw[e];unfold zb9;simp -implicitDefEqProofs only[go_sem,simprocAttr,d1,d2,d3,g1,g2,w1,w2,ypq,hx]
  ·have hx':x<p:=by simpa using hx
   have e:(jo x (p::R)).reverse++Q=(jo x R).reverse++p::Q:=by simp only[jo,if_pos hx'];simp
   rw[e,←ih'];unfold zep;simp -implicitDefEqProofs only[go_sem,simprocAttr,d1,d2,d3,g1,g2,w1,w2,ypq,hx,d4,d5,g4,List.map_set]
theorem xac(n:Nat)(hn:n<100000):∀(r R:List Int),R.length+r.length=n→0<R.length→zb9 (R.reverse++r) n R.length=some (.ret (.tup []),[.cells false true 3 ((zdj R r).reverse.map zx)],0,[]):=by
 intro r
 induction r with
 |nil=>
  intro R hl _;simp only[List.length_nil,Nat.add_zero]at hl;subst hl;rw[List.append_nil];unfold zb9;rw[zj];have h1:=xz R.length;simp -implicitDefEqProofs only[go_sem,simprocAttr,h1];rfl
 |cons x r ih=>
  intro R hl hR;rw[List.length_cons]at hl;have hI:=xab n R.length (by omega) (by omega) x R r (by simp;omega);have h1:decide ((R.length:Int)<(n:Int))=true:=decide_eq_true (by omega)
  have hh:zb9 (R.reverse++x::r) n R.length=zep (R.reverse++x::r) n R.length R.length:=by
   conv=>lhs;unfold zb9;rw[zj]
   unfold zep;simp -implicitDefEqProofs only[go_sem,simprocAttr,h1]
  rw[hh,hI];have ih':=ih (jo x R) (by rw[zn5];omega) (by rw[zn5];omega);rw[zn5]at ih';exact ih'
theorem xkd(l:List Int)(hl:l.length<100000)(h0:0<l.length):(zy T).call 269 [.ref 0,.int .i64 0,.int .i64 l.length] [.cells false true 3 (l.map zx)] 0 []=some (.tup [],[.cells false true 3 ((u4 l).map zx)],0,[]):=by
 rw[xfp]
 match l,h0 with
 |x::r,_=>
  have h:=xac (x::r).length hl r [x] (by simp;omega) (by simp);unfold zb9 at h;simp only[List.reverse_cons,List.reverse_nil,List.nil_append,List.cons_append,List.length_singleton,List.map_cons,zx,List.length_cons,List.length_nil,Nat.zero_add,Int.cast_ofNat_Int]at h;have w:IntKind.i64.wrap ((0:Int)+1)=1:=by rw[wrap64]<;>omega
  have e:u4 (x::r)=(zdj [x] r).reverse:=rfl;rw[e];simp -implicitDefEqProofs only[go_sem,simprocAttr,wrap64,h,Int.reduceAdd]
theorem xke(l:List Int)(k:Int)(hl:l.length≤12)(h0:0<l.length):(zy T).call 247 [.ref 0,.int .i64 0,.int .i64 l.length,.int .i64 k] [.cells false true 3 (l.map zx)] 0 []=some (.tup [],[.cells false true 3 ((u4 l).map zx)],0,[]):=by
 rw[xfq];have e:=xkd l (by omega) h0;have w:IntKind.i64.wrap ((l.length:Int)- 0)=(l.length:Int):=by rw[wrap64]<;>omega
 have d:decide ((l.length:Int)≤12)=true:=decide_eq_true (by omega);simp -implicitDefEqProofs only[go_sem,simprocAttr];rw[zj];simp -implicitDefEqProofs only[go_sem,simprocAttr,w,d];rw[zoa (id:=0) (l':=(u4 l).map zx) xep.1 yvv rfl rfl _ rfl rfl e];simp -implicitDefEqProofs only[go_sem,simprocAttr]
theorem xck:(zy T).call 233 [.int .u64 0] [] 0 []=some (.int .i64 0,[],0,[]):=xp (MemoOk.nil T) 100000 (by kernel_rfl)
theorem xcj:(zy T).call 233 [.int .u64 1] [] 0 []=some (.int .i64 1,[],0,[]):=xp (MemoOk.nil T) 100000 (by kernel_rfl)
theorem xcf:(zy T).call 233 [.int .u64 2] [] 0 []=some (.int .i64 2,[],0,[]):=xp (MemoOk.nil T) 100000 (by kernel_rfl)
theorem xce:(zy T).call 233 [.int .u64 3] [] 0 []=some (.int .i64 2,[],0,[]):=xp (MemoOk.nil T) 100000 (by kernel_rfl)
theorem xcd:(zy T).call 233 [.int .u64 4] [] 0 []=some (.int .i64 3,[],0,[]):=xp (MemoOk.nil T) 100000 (by kernel_rfl)
theorem xcc:(zy T).call 233 [.int .u64 5] [] 0 []=some (.int .i64 3,[],0,[]):=xp (MemoOk.nil T) 100000 (by kernel_rfl)
theorem xcb:(zy T).call 233 [.int .u64 6] [] 0 []=some (.int .i64 3,[],0,[]):=xp (MemoOk.nil T) 100000 (by kernel_rfl)
theorem xca:(zy T).call 233 [.int .u64 7] [] 0 []=some (.int .i64 3,[],0,[]):=xp (MemoOk.nil T) 100000 (by kernel_rfl)
theorem len8:(zy T).call 233 [.int .u64 8] [] 0 []=some (.int .i64 4,[],0,[]):=xp (MemoOk.nil T) 100000 (by kernel_rfl)
theorem xb9:(zy T).call 233 [.int .u64 9] [] 0 []=some (.int .i64 4,[],0,[]):=xp (MemoOk.nil T) 100000 (by kernel_rfl)
theorem xci:(zy T).call 233 [.int .u64 10] [] 0 []=some (.int .i64 4,[],0,[]):=xp (MemoOk.nil T) 100000 (by kernel_rfl)
theorem xch:(zy T).call 233 [.int .u64 11] [] 0 []=some (.int .i64 4,[],0,[]):=xp (MemoOk.nil T) 100000 (by kernel_rfl)
theorem xcg:(zy T).call 233 [.int .u64 12] [] 0 []=some (.int .i64 4,[],0,[]):=xp (MemoOk.nil T) 100000 (by kernel_rfl)
theorem xkh(n:Nat)(h:n≤12):∃r,(zy T).call 233 [.int .u64 n] [] 0 []=some (.int .i64 r,[],0,[]):=by
 have:n=0∨n=1∨n=2∨n=3∨n=4∨n=5∨n=6∨n=7∨n=8∨n=9∨n=10∨n=11∨n=12:=by omega
 rcases this with rfl|rfl|rfl|rfl|rfl|rfl|rfl|rfl|rfl|rfl|rfl|rfl|rfl
 ·exact⟨0,xck⟩
 ·exact⟨1,xcj⟩
 ·exact⟨2,xcf⟩
 ·exact⟨2,xce⟩
 ·exact⟨3,xcd⟩
 ·exact⟨3,xcc⟩
 ·exact⟨3,xcb⟩
 ·exact⟨3,xca⟩
 ·exact⟨4,len8⟩
 ·exact⟨4,xb9⟩
 ·exact⟨4,xci⟩
 ·exact⟨4,xch⟩
 ·exact⟨4,xcg⟩
theorem xki(l:List Int)(hl:l.length≤12)(h0:0<l.length):(zy T).call 229 [.ref 0] [.cells false true 3 (l.map zx)] 0 []=some (.tup [],[.cells false true 3 ((u4 l).map zx)],0,[]):=by
 rw[xfw];obtain⟨r,e1⟩:=xkh l.length hl;have e:=xke l r hl h0
 have w:IntKind.u64.wrap (l.length:Int)=(l.length:Int):=by
  simp only[IntKind.wrap,IntKind.bits,IntKind.signed];have:(2:Int)^64=18446744073709551616:=by decide
  simp;omega
 simp -implicitDefEqProofs only[go_sem,simprocAttr,w,e1];rw[zoa (id:=0) (l':=(u4 l).map zx) xeq.1 yvw rfl rfl _ rfl rfl e];simp -implicitDefEqProofs only[go_sem,simprocAttr]
def med(l:List Int):Int:=(u4 l).getD ((l.length- 1)/2) 0
theorem xk9(b:Bool)(l:List Int)(hl:l.length≤12)(h0:0<l.length):(zy T).call 183 [.sl b 1 (l.map zx)] [] 0 []=some (.int .i64 (med l),[],0,[]):=by
 rw[xgn];have e:=xki l hl h0;have d1:decide (0≤(l.length:Int)∧(l.length:Int)≤(l.length:Int)∧(l.length:Int)<(maxRow:Int))=true:=decide_eq_true ⟨by omega,by omega,by unfold maxRow;omega⟩
 have d2:List.take (List.replicate l.length (V.int IntKind.i64 0)).length (List.map zx l)++List.drop (min l.length (List.replicate l.length (V.int IntKind.i64 0)).length) (List.replicate l.length (V.int IntKind.i64 0))=l.map zx:=by
  rw[List.length_replicate,Nat.min_self,List.drop_of_length_le (by simp),List.append_nil,List.take_of_length_le (by simp)]
 simp -implicitDefEqProofs only[go_sem,simprocAttr,d1,d2];rw[zoa (id:=0) (l':=(u4 l).map zx) xer.1 yvx rfl rfl _ rfl rfl e];have hp:=(yt7 l).length_eq;have w1:IntKind.i64.wrap ((l.length:Int)- 1)=((l.length- 1:Nat):Int):=by rw[wrap64]<;>omega
 have hm:(l.length- 1)/2<(u4 l).length:=by rw[hp];omega
 have g:(u4 l)[(l.length- 1)/2]? =some (med l):=by
  unfold med;rw[List.getD_eq_getElem?_getD,List.getElem?_eq_getElem hm];rfl
 have w2:IntKind.i64.wrap (((l.length- 1:Nat):Int).tdiv 2)=(((l.length- 1)/2:Nat):Int):=by
  rw[show((l.length- 1:Nat):Int).tdiv 2=(((l.length- 1)/2:Nat):Int)from rfl,wrap64]<;>omega
 have d3:decide (0≤(((l.length- 1)/2:Nat):Int)∧(((l.length- 1)/2:Nat):Int)<(l.length:Int))=true:=decide_eq_true (by omega);simp -implicitDefEqProofs only[go_sem,simprocAttr,hp,w1,w2,d3,g]
theorem yz4(b c:Bool)(l m:List Int)(hb:l.length<4611686018427387904)(hm:l.length=m.length):∀i,i≤l.length→(zy T).loop false [.code (.loop zju),.inBlock 0,.code (.seq zl0 .ret)] ⟨89,26,0,[(0,.sl b 1 (l.map zx)),(1,.sl c 1 (m.map zx)),(5,.int .i64 i)],[],0,[]⟩=some (.ret (.bool (decide (l.drop i=m.drop i))),[],0,[]):=by
 refine xv l.length ?_ fun i hi ih=> ?_
 ·rw[zj]
  have h1:=xz l.length;simp -implicitDefEqProofs only[go_sem,simprocAttr,h1];simp[hm]
 ·obtain⟨h1,h2,h3,h4,h5⟩:=zr hi hb
  obtain⟨g1,g2,g3,g4,g5⟩:=zr (l:=m) (i:=i) (by omega) (by omega);rw[zj];cases h6:(l[i] !=m[i])
  ·have h7:l[i]=m[i]:=by simpa using h6
   simp -implicitDefEqProofs only[go_sem,simprocAttr,h1,h2,h3,h4,h6,g1,g2,g3,g4,ih];simp only[h5,g5,List.cons.injEq,h7,true_and,false_and,decide_false]
  ·have h7:¬l[i]=m[i]:=by simpa using h6
   simp -implicitDefEqProofs only[go_sem,simprocAttr,h1,h2,h3,h4,h6,g1,g2,g3,g4];simp only[h5,g5,List.cons.injEq,h7,true_and,false_and,decide_false]
theorem c89(b c:Bool)(l m:List Int)(hb:l.length<4611686018427387904):(zy T).call 89 [.sl b 1 (l.map zx),.sl c 1 (m.map zx)] [] 0 []=some (.bool (decide (l=m)),[],0,[]):=by
 rw[yn5];cases h:((l.length:Int) !=m.length)
 ·have h1:l.length=m.length:=by simp at h;omega
  have h2:=yz4 b c l m hb h1 0 (by omega);rw[show((0:Nat):Int)=0 from rfl,List.drop_zero,List.drop_zero]at h2;simp -implicitDefEqProofs only[go_sem,simprocAttr,h,h2]
 ·have h1:¬l.length=m.length:=by simp at h;omega
  simp -implicitDefEqProofs only[go_sem,simprocAttr,h];have:¬l=m:=fun e=>h1 (by rw[e]);simp[this]
theorem xj7(b:Bool)(l:List Int)(hb:l.length<4611686018427387904):(zy T).call 89 [.sl b 1 (l.map zx),.sl false 0 []] [] 0 []=some (.bool (decide (l= [])),[],0,[]):=by
 rw[yn5];cases l with
 |nil=>
  simp -implicitDefEqProofs only[go_sem,simprocAttr];rw[zj];simp -implicitDefEqProofs only[go_sem,simprocAttr]
 |cons x l=>
  have h:(((l.length+1:Nat):Int) !=0)=true:=by simp;omega
  simp -implicitDefEqProofs only[go_sem,simprocAttr,h]
  try simp
def slots(p:Pk):Nat:=(p.v[0]?.getD (false,[])).2.length
def uo(p:Pk)(k:Nat):List Int:=p.v.map fun r=>r.2.getD k 0
def qa(p:Pk):List Int:=(List.range (slots p)).map fun k=>med (uo p k)
structure Ok (p:Pk):Prop where
 v1:0<p.v.length
 v8:p.v.length≤8
 s1:0<slots p
 s8:slots p≤8
 row:∀r∈p.v,r.2.length=slots p
 en:∀r∈p.v,∀n∈r.2,0≤n∧n≤1000000
 no:0≤p.n∧p.n≤1000000
 cs:xa p.c=0
 c8:p.c.length≤8
 ca:∀c∈p.c,0≤c.c∧c.c<p.v.length∧c.l.length=slots p
 lo:∀c∈p.c,∀x∈c.l,0≤x.1∧x.1≤x.2∧x.2≤1000000
theorem zef{n:Int}(h:yj n=0):0≤n∧n≤1000000:=by
 unfold yj at h;rw[zho]at h;by_cases h3:n<0∨1000000<n
 ·simp[h3]at h
 ·omega
theorem za5{b:Bool}{e:Int}(h:cond b e 0=0)(he:e≠0):b=false:=by cases b<;>simp_all
theorem zf0(l:List Cz):∀(r:List Cz) (i k:Nat) (h:k<r.length),uz l (i+k) r[k]∈q6 l i r
 | [],_,_,h=>by cases h
 |m::r,i,0,_=>List.mem_cons_self ..
 |m::r,i,k+1,h=>by
  have:=zf0 l r (i+1) k (by simpa using h);rw[show i+1+k=i+(k+1) by omega]at this;exact List.mem_cons_of_mem _ this
theorem j7{p:Pk}(h:xy p=0):Ok p:=by
 unfold xy at h;split at h
 ·rename_i h0
  obtain⟨k1,k2⟩:=zev h0;have hr0:p.v[0]? =some p.v[0]:=List.getElem?_eq_getElem k1;have hs:slots p=p.v[0].2.length:=by unfold slots;rw[hr0];rfl
  rw[hr0]at h;dsimp only[Option.getD_some]at h;rw[←hs]at h;have q1:=xw.1 (xw.1 h (fnz (p.v.map fun r=>uy (slots p) r)) (by simp));have q2:=zef (xw.1 h (yj p.n) (by simp));have q3:=xw.1 h (xa p.c) (by simp);have q4:=xw.1 (xw.1 h (fnz (p.c.map fun c=>uv p.v.length (slots p) c)) (by simp))
  have row:∀r∈p.v,r.2.length=slots p∧(0<r.2.length∧r.2.length≤8)∧∀n∈r.2,0≤n∧n≤1000000:=fun r hr=>by
   have a:=xw.1 (q1 _ (List.mem_map.2 ⟨r,hr,rfl⟩));have a1:=zev (a (k7 r.2.length 8) (by simp));have a2:=za5 (a (cond ((r.2.length:Int) !=slots p) 2 0) (by simp)) (by decide);have a3:=xw.1 (a (fnz (r.2.map fun n=>yj n)) (by simp));refine⟨by simp at a2;omega,a1,fun n hn=>zef (a3 _ (List.mem_map.2 ⟨n,hn,rfl⟩))⟩
  have r0:=row p.v[0] (List.getElem_mem k1)
  have hc8:p.c.length≤8∧fnz (q6 p.c 0 p.c)=0:=by
   unfold xa at q3;by_cases hl:8<p.c.length
   ·rw[if_pos hl]at q3;cases q3
   ·rw[if_neg hl]at q3;exact⟨by omega,q3⟩
  have cc:∀c∈p.c,u2 c=0:=fun c hc=>by
   obtain⟨k,hk,rfl⟩:=List.mem_iff_getElem.1 hc;have a:=zf0 p.c p.c 0 k hk;have a:=xw.1 hc8.2 _ a;exact xw.1 a (u2 p.c[k]) (by simp)
  refine⟨k1,k2,by omega,by omega,fun r hr=>(row r hr).1,fun r hr=>(row r hr).2.2,q2,q3,hc8.1,fun c hc=> ?_,fun c hc x hx=> ?_⟩
  ·have a:=xw.1 (q4 _ (List.mem_map.2 ⟨c,hc,rfl⟩))
   have a1:=za5 (a (cond (decide ((p.v.length:Int)≤c.c)) 10 0) (by simp)) (by decide);have a2:=za5 (a (cond ((c.l.length:Int) !=slots p) 2 0) (by simp)) (by decide);have b:=xw.1 (cc c hc) (kq c.c 0 7) (by simp);rw[zho]at b;simp at a1 a2;by_cases h3:c.c<0∨7<c.c
   ·simp[h3]at b
   ·omega
  ·have b:=xw.1 (xw.1 (cc c hc) (fnz (c.l.map fun x=>ku x)) (by simp)) _ (List.mem_map.2 ⟨x,hx,rfl⟩)
   have b1:=zef (xw.1 b (yj x.1) (by simp));have b2:=zef (xw.1 b (yj x.2) (by simp));have b3:=za5 (xw.1 b (cond (decide (x.2<x.1)) 11 0) (by simp)) (by decide);simp at b3;omega
 ·rename_i h0;exact absurd h h0
theorem ypy(r:Bool×List Int)(k:Nat)(hk:k<r.2.length)(hr:r.2.length<1000000):(zy T).call 185 [.sl r.1 1 (r.2.map zx),.pp 1 [.int .i64 k] 0 0] [] 0 []=some (.int .i64 (r.2.getD k 0),[],0,[]):=by
 rw[xgl];obtain⟨h1,h2,h3,h4,h5⟩:=zr hk (by omega);have e:r.2.getD k 0=r.2[k]:=by rw[List.getD_eq_getElem?_getD,h3];rfl
 rw[e];simp -implicitDefEqProofs only[go_sem,simprocAttr,h2,h3]
theorem xaw(k:Nat)(b:Bool)(l:List (Bool×List Int))(hb:l.length<1000000)(hk:∀r∈l,k<r.2.length∧r.2.length<1000000):∀i,i≤l.length→∀o:Option (List (Int)),ka o=i→
  (zy T).loop false [.code (.loop zkc),.inBlock 0,.code (.seq zmk .ret)] ⟨184,22,0,[(1,.fn 185 [.pp 1 [.int .i64 k] 0 0]),(5,kp o 0),(8,.sl b 1 (l.map j0)),(9,.int .i64 l.length),(10,.int .i64 i)],kc zx o 3,0,[]⟩=
   some (.ret (vv zx 0 1 (qj o ((l.drop i).map (fun r=>r.2.getD k 0)))),[],0,[]):=by
 refine xv l.length ?_ fun i hi ih o ho=> ?_
 ·intro o ho
  rw[zj];have h1:=xz l.length;cases o with
  |none=>
   simp -implicitDefEqProofs only[go_sem,simprocAttr,h1];simp[qj,vv]
  |some a=>
   simp -implicitDefEqProofs only[go_sem,simprocAttr,h1];simp[qj,vv]
 ·obtain⟨h1,h2,h3,h4,h5⟩:=zr hi (by omega)
  rw[zj,h5];have ih':=ih (qj o [((fun r=>r.2.getD k 0) l[i])]) (by rw[jz,ho];rfl);rw[jx]at ih';dsimp only at ih';cases o with
  |none=>
   have h8:=ze (n:=0) (by omega);simp only[jy,zi,z6,List.map_cons,List.map_nil,zx]at ih';simp -implicitDefEqProofs only[go_sem,simprocAttr,h1,h2,h3,h4,ih',h8.2,ypy l[i] k (hk _ (List.getElem_mem hi)).1 (hk _ (List.getElem_mem hi)).2]
  |some a=>
   have h9:a.length=i:=ho;have h8:=(ze (n:=a.length) (by omega)).1;simp only[qd,zi,z6,List.map_append,List.map_cons,List.map_nil,zx]at ih';simp -implicitDefEqProofs only[go_sem,simprocAttr,h1,h2,h3,h4,ih',h8,ypy l[i] k (hk _ (List.getElem_mem hi)).1 (hk _ (List.getElem_mem hi)).2]
theorem xk8(k:Nat)(b:Bool)(l:List (Bool×List Int))(hb:l.length<1000000)(hk:∀r∈l,k<r.2.length∧r.2.length<1000000):(zy T).call 184 [.sl b 1 (l.map j0),.fn 185 [.pp 1 [.int .i64 k] 0 0]] [] 0 []=some (wt 1 (((l).map (fun r=>r.2.getD k 0)).map zx),[],0,[]):=by
 rw[xgm];have h:=xaw k b l hb hk 0 (by omega) none rfl;rw[show((0:Nat):Int)=0 from rfl,List.drop_zero,ji]at h;simp only[xk,xu]at h;simp -implicitDefEqProofs only[go_sem,simprocAttr,h]
theorem xk7(p:Pk)(b:Bool)(k:Nat)(ho:Ok p)(hk:k<slots p):(zy T).call 184 [.sl b 1 (p.v.map j0),.fn 185 [.pp 1 [.int .i64 k] 0 0]] [] 0 []=some (wt 1 ((uo p k).map zx),[],0,[]):=
 xk8 k b p.v (by have:=ho.v8;omega) (fun r hr=>by have:=ho.row r hr;have:=ho.s8;omega)
theorem zbt(p:Pk):(qa p).length=slots p:=by simp[qa]
theorem yze(p:Pk)(k:Nat)(h:k<(qa p).length):(qa p)[k]=med (uo p k):=by simp[qa]
theorem yo4(p:Pk)(k:Nat):(uo p k).length=p.v.length:=by simp[uo]
def zk7(p:Pk)(o:Option (List Int))(k:Nat):Option Out:=
 (zy T).loop false [.code (.loop zku),.inBlock 0,.code (.seq zm5 .ret)]
  ⟨106,23,0,[(1,.ptr 0 0 0),(3,kp o 1),(9,.int .i64 (qa p).length),(10,.int .i64 k)],.cells true true 34 [zk p]::kc zx o 3,0,[]⟩
theorem xbu(p:Pk)(ho:Ok p):∀k,k≤(qa p).length→∀o,ka o=k→zk7 p o k=some (.ret (vv zx 0 1 (qj o ((qa p).drop k))),[],0,[]):=by
 have hs8:=ho.s8;have hml:=zbt p;refine xv (qa p).length ?_ fun k hk ih o hO=> ?_
 ·intro o hO
  unfold zk7;rw[zj];have h1:=xz (qa p).length;have h0:(qa p).drop (qa p).length= []:=by simp
  rw[h0,wb];cases o with
  |none=>simp -implicitDefEqProofs only[go_sem,simprocAttr,zk,h1]
  |some a=>simp -implicitDefEqProofs only[go_sem,simprocAttr,zk,h1]
 ·obtain⟨h1,h2,h3,h4,h5⟩:=zr hk (by omega)
  rw[h5];have e1:=xk7 p p.vb k ho (by omega);have e2:=xk9 (!((uo p k).map zx).isEmpty) (uo p k) (by rw[yo4];have:=ho.v8;omega) (by rw[yo4];exact ho.v1);rw[←yze p k hk]at e2;have ih':=ih (qj o [(qa p)[k]]) (by rw[jz,hO];rfl);rw[jx]at ih';unfold zk7 at ih'⊢;rw[zj];cases o with
  |none=>
   have h8:=ze (n:=0) (by omega);simp only[jy,zi,z6,xk,xu,List.map_cons,List.map_nil,zx,zk]at ih'⊢;simp -implicitDefEqProofs only[go_sem,simprocAttr,h1,h2,h3,h4,e1,e2,ih',h8.2]
  |some a=>
   have h9:a.length=k:=hO;have h8:=(ze (n:=a.length) (by omega)).1;simp only[qd,zi,z6,List.map_append,List.map_cons,List.map_nil,zx,zk]at ih'⊢;simp -implicitDefEqProofs only[go_sem,simprocAttr,h1,h2,h3,h4,e1,e2,ih',h8]
theorem zhf{p:Pk}(ho:Ok p):∃r0,p.v[0]? =some r0∧r0.2.length=(qa p).length∧decide (0<(p.v.length:Int))=true:=by
 have hv:=ho.v1;have hr0:p.v[0]? =some p.v[0]:=List.getElem?_eq_getElem hv;exact⟨p.v[0]'hv,hr0,by rw[zbt];unfold slots;rw[hr0];rfl,zi3 hr0⟩
theorem xl8(p:Pk)(ho:Ok p):(zy T).call 106 [zk p] [] 0 []=some (wt 1 ((qa p).map zx),[],0,[]):=by
 rw[xhs];have h:=xbu p ho 0 (by omega) none rfl;rw[List.drop_zero,ji]at h;unfold zk7 at h;obtain⟨r0,g1,g2,g3⟩:=zhf ho;simp only[xk,xu,show((0:Nat):Int)=0 from rfl,zk]at h;simp -implicitDefEqProofs only[go_sem,simprocAttr,zk,g1,g2,g3,h]
def ub(m l:List Int):List Int:=List.zipWith (fun a b=>IntKind.i64.wrap (a- b)) m l
theorem zlp(m l:List Int)(h:l.length=m.length):(ub m l).length=l.length:=by simp[ub,h]
theorem yvc(m l:List Int)(i:Nat)(h1:i<l.length)(h2:i<m.length):(ub m l).drop i=IntKind.i64.wrap (m[i]- l[i])::(ub m l).drop (i+1):=by
 rw[List.drop_eq_getElem_cons (by simp[ub];omega)];simp[ub]
theorem xau(b mb:Bool)(m l:List Int)(hb:l.length<1000000)(hm:l.length=m.length):∀i,i≤l.length→∀o:Option (List Int),ka o=i→
  (zy T).loop false [.code (.loop zka),.inBlock 0,.code (.seq zmi .ret)] ⟨187,25,0,[(1,.pp 1 [.sl mb 1 (m.map zx)] 0 0),(4,kp o 0),(7,.sl b 1 (l.map zx)),(8,.int .i64 l.length),(9,.int .i64 i)],kc zx o 3,0,[]⟩=
   some (.ret (vv zx 0 1 (qj o ((ub m l).drop i))),[],0,[]):=by
 refine xv l.length ?_ fun i hi ih o ho=> ?_
 ·intro o ho
  rw[zj];have h1:=xz l.length;have h0:(ub m l).drop l.length= []:=by rw[←zlp m l hm];simp
  rw[h0,wb];cases o with
  |none=>
   simp -implicitDefEqProofs only[go_sem,simprocAttr,h1]
  |some a=>
   simp -implicitDefEqProofs only[go_sem,simprocAttr,h1]
 ·obtain⟨h1,h2,h3,h4,h5⟩:=zr hi (by omega)
  obtain⟨g1,g2,g3,g4,g5⟩:=zr (l:=m) (i:=i) (by omega) (by omega);rw[zj,yvc m l i hi (by omega)];have ih':=ih (qj o [IntKind.i64.wrap (m[i]- l[i])]) (by rw[jz,ho];rfl);rw[jx]at ih';cases o with
  |none=>
   have h8:=ze (n:=0) (by omega);simp only[jy,zi,z6,List.map_cons,List.map_nil,zx]at ih';simp -implicitDefEqProofs only[go_sem,simprocAttr,h1,h2,h3,h4,g2,g3,ih',h8.2]
  |some a=>
   have h9:a.length=i:=ho;have h8:=(ze (n:=a.length) (by omega)).1;simp only[qd,zi,z6,List.map_append,List.map_cons,List.map_nil,zx]at ih';simp -implicitDefEqProofs only[go_sem,simprocAttr,h1,h2,h3,h4,g2,g3,ih',h8]
theorem ypx(r:Bool×List Int)(mb:Bool)(m:List Int)(hr:r.2.length<1000000∧r.2.length=m.length):(zy T).call 187 [.sl r.1 1 (r.2.map zx),.pp 1 [.sl mb 1 (m.map zx)] 0 0] [] 0 []=some (wt 1 ((ub m r.2).map zx),[],0,[]):=by
 rw[xgj];have h:=xau r.1 mb m r.2 hr.1 hr.2 0 (by omega) none rfl;rw[show((0:Nat):Int)=0 from rfl,List.drop_zero,ji]at h;simp only[xk,xu]at h;simp -implicitDefEqProofs only[go_sem,simprocAttr,h]
def rsR(m:List Int)(r:Bool×List Int):Bool×List Int:=(!((ub m r.2).map zx).isEmpty,ub m r.2)
theorem xav(mb:Bool)(m:List Int)(b:Bool)(l:List (Bool×List Int))(hb:l.length<1000000)(hk:∀r∈l,r.2.length<1000000∧r.2.length=m.length):∀i,i≤l.length→∀o:Option (List (Bool×List Int)),ka o=i→
  (zy T).loop false [.code (.loop zkb),.inBlock 0,.code (.seq zmj .ret)] ⟨186,22,0,[(1,.fn 187 [.pp 1 [.sl mb 1 (m.map zx)] 0 0]),(5,kp o 0),(8,.sl b 1 (l.map j0)),(9,.int .i64 l.length),(10,.int .i64 i)],kc j0 o 28,0,[]⟩=
   some (.ret (vv j0 0 1 (qj o ((l.drop i).map (fun r=>rsR m r)))),[],0,[]):=by
 refine xv l.length ?_ fun i hi ih o ho=> ?_
 ·intro o ho
  rw[zj];have h1:=xz l.length;cases o with
  |none=>
   simp -implicitDefEqProofs only[go_sem,simprocAttr,h1];simp[qj,vv]
  |some a=>
   simp -implicitDefEqProofs only[go_sem,simprocAttr,h1];simp[qj,vv]
 ·obtain⟨h1,h2,h3,h4,h5⟩:=zr hi (by omega)
  rw[zj,h5];have ih':=ih (qj o [((fun r=>rsR m r) l[i])]) (by rw[jz,ho];rfl);rw[jx]at ih';dsimp only at ih';cases o with
  |none=>
   have h8:=ze (n:=0) (by omega);simp only[jy,zi,z6,List.map_cons,List.map_nil,j0,rsR]at ih';simp -implicitDefEqProofs only[go_sem,simprocAttr,h1,h2,h3,h4,ih',h8.2,rsR,ypx l[i] mb m (hk _ (List.getElem_mem hi))]
  |some a=>
   have h9:a.length=i:=ho;have h8:=(ze (n:=a.length) (by omega)).1;simp only[qd,zi,z6,List.map_append,List.map_cons,List.map_nil,j0,rsR]at ih';simp -implicitDefEqProofs only[go_sem,simprocAttr,h1,h2,h3,h4,ih',h8,rsR,ypx l[i] mb m (hk _ (List.getElem_mem hi))]
theorem xk6(mb:Bool)(m:List Int)(b:Bool)(l:List (Bool×List Int))(hb:l.length<1000000)(hk:∀r∈l,r.2.length<1000000∧r.2.length=m.length):(zy T).call 186 [.sl b 1 (l.map j0),.fn 187 [.pp 1 [.sl mb 1 (m.map zx)] 0 0]] [] 0 []=some (wt 1 (((l).map (fun r=>rsR m r)).map j0),[],0,[]):=by
 rw[xgk];have h:=xav mb m b l hb hk 0 (by omega) none rfl;rw[show((0:Nat):Int)=0 from rfl,List.drop_zero,ji]at h;simp only[xk,xu]at h;simp -implicitDefEqProofs only[go_sem,simprocAttr,h]
def j6(p:Pk):List (Bool×List Int):=p.v.map fun r=>rsR (qa p) r
theorem ze7{p:Pk}(ho:Ok p):∀r∈p.v,r.2.length<1000000∧r.2.length=(qa p).length:=fun r hr=>by
 have:=ho.row r hr;have:=ho.s8;rw[zbt];omega
theorem xl7(p:Pk)(ho:Ok p):(zy T).call 107 [zk p] [] 0 []=some (.sl (!((j6 p).map j0).isEmpty) 1 ((j6 p).map j0),[],0,[]):=by
 rw[xhr];have e1:=xl8 p ho;have e2:=xk6 (!((qa p).map zx).isEmpty) (qa p) p.vb p.v (by have:=ho.v8;omega) (ze7 ho);rw[show List.map (fun r=>rsR (qa p) r) p.v=j6 p from rfl]at e2;simp only[zk]at e1;simp -implicitDefEqProofs only[go_sem,simprocAttr,zk,e1,e2]
def rsT(m:List Int)(r:Bool×List Int):Bool×List Int:=(true,ub m r.2)
def jt(p:Pk):List (Bool×List Int):=p.v.map (rsT (qa p))
theorem ymd(p:Pk):qa (zp p)=qa p:=by
 have h1:slots (zp p)=slots p:=by
  unfold slots zp;simp only[List.getElem?_map];cases p.v[0]? <;>rfl
 have h2:∀k,uo (zp p) k=uo p k:=fun k=>by
  unfold uo zp;simp only[List.map_map];rfl
 unfold qa;rw[h1];congr 1;funext k;rw[h2]
theorem yvu(p:Pk):(j6 (zp p)).map (·.2)=(jt p).map (·.2):=by
 unfold j6 jt;rw[ymd];unfold zp;simp only[List.map_map];rfl
theorem ynk{p:Pk}(h:shP p=true)(hv:p.v.length<1000):p.fit:=by
 unfold shP at h;simp only[Bool.and_eq_true,Bool.not_eq_true',Bool.or_eq_false_iff,Bool.not_eq_false',List.all_eq_true]at h;obtain⟨⟨h1,h2⟩,h3⟩:=h;unfold shC at h2;simp only[Bool.and_eq_true,Bool.not_eq_true',Bool.and_eq_false_iff,List.all_eq_true]at h2;obtain⟨h4,h5⟩:=h2;refine⟨hv,fun r hr=> ?_,?_,fun c hc=> ?_⟩
 ·have:=h3 r hr
  unfold shR at this;simp at this;omega
 ·rcases h4 with h4|h4
  ·simp at h4;omega
  ·simp at h4;omega
 ·have:=h5 c hc
  unfold zhg at this;simp at this;omega
theorem zqn{p:Pk}(h:shP p=true):p.v.length≤9:=by
 unfold shP at h;simp only[Bool.and_eq_true,Bool.not_eq_true',Bool.or_eq_false_iff]at h;have:=h.1.1;simp at this;omega
theorem xil{p:Pk}(hf:p.fit)(h:xy p=0):∀c∈p.c,c.nn∧c.l.length<1000000:=by
 unfold xy at h;split at h
 ·have q3:=xw.1 h (xa p.c) (by simp)
  have hc8:p.c.length≤8∧fnz (q6 p.c 0 p.c)=0:=by
   unfold xa at q3;by_cases hl:8<p.c.length
   ·rw[if_pos hl]at q3;cases q3
   ·rw[if_neg hl]at q3;exact⟨by omega,q3⟩
  have cc:∀c∈p.c,u2 c=0:=fun c hc=>by
   obtain⟨k,hk,rfl⟩:=List.mem_iff_getElem.1 hc;have a:=zf0 p.c p.c 0 k hk;have a:=xw.1 hc8.2 _ a;exact xw.1 a (u2 p.c[k]) (by simp)
  intro c hc;obtain⟨f1,f2⟩:=hf.2.2.2 c hc;have b:=xw.1 (cc c hc) (kq c.c 0 7) (by simp);have bs:=zev (xw.1 (cc c hc) (k7 c.l.length 8) (by simp));rw[zho]at b;refine⟨⟨?_,f1,by omega,fun x hx=> ?_⟩,f2⟩
  ·by_cases h3:c.c<0∨7<c.c
   ·simp[h3]at b
   ·unfold nnI;omega
  ·have b:=xw.1 (xw.1 (cc c hc) (fnz (c.l.map fun x=>ku x)) (by simp)) _ (List.mem_map.2 ⟨x,hx,rfl⟩)
   have b1:=zef (xw.1 b (yj x.1) (by simp));have b2:=zef (xw.1 b (yj x.2) (by simp));unfold nnI;omega
 ·rename_i h0;exact absurd h h0
theorem c92(p:Pk)(hf:p.fit)(hn:xy p=0→∀c∈p.c,c.nn)(hp:xy p=0→(printS p.c).length<1000000000000):(zy T).call 92 [zk p] [] 0 []=some (.tup [.str (if xy p=0 then printS p.c else []),.int .i64 (xy p)],[],0,[]):=by
 have e23:=c23 p hf;rw[xfd];simp only[zk]at e23;cases hk:(xy p==0)
 ·have h0:¬xy p=0:=by simpa using hk
  rw[if_neg h0];have hk':(xy p !=0)=true:=by simpa using h0
  simp -implicitDefEqProofs only[go_sem,simprocAttr,zk,e23,hk,hk']
 ·have h0:xy p=0:=by simpa using hk
  rw[if_pos h0];have e174:=xlf p.cb p.c (by have:=hf.2.2.1;omega) (hn h0)
  have ej:zbu [.sl (!((p.c.map lineS).map V.str).isEmpty) 1 ((p.c.map lineS).map .str),.str []]=some (.str (printS p.c)):=by
   have hh:xi [] (p.c.map lineS)=printS p.c:=by rw[ymu];rfl
   rw[ymt (by simp;have:=hf.2.2.1;omega) (by rw[hh];have:=hp h0;omega),hh]
  rw[h0]at e23⊢;simp -implicitDefEqProofs only[go_sem,simprocAttr,zk,e23,e174,ej]
theorem xdq(a b:List UInt8):∀n,ja false n (a++b)=(ja false n a).bind fun m=>ja false m b:=by
 induction a with
 |nil=>intro n;rfl
 |cons c a ih=>
  intro n;simp only[List.cons_append,ja];cases zfx c&& !false
  ·rfl
  ·exact ih _
theorem yos{k:Nat}(hk:k<10):zfx (UInt8.ofNat (48+k))=true∧(UInt8.ofNat (48+k)).toNat- 48=k:=by
 have:(UInt8.ofNat (48+k)).toNat=48+k:=by simp;omega
 unfold zfx;rw[this];simp;omega
theorem yov:∀(f v:Nat),v<f→ja false 0 (Lib.decDigits v)=some v∧Lib.decDigits v≠ []∧(0<v→(Lib.decDigits v).head? ≠some 48)∧(∀c∈Lib.decDigits v,48≤c.toNat∧c.toNat≤57)∧∀k,v<10^(k+1)→(Lib.decDigits v).length≤k+1:=by
 intro f
 induction f with
 |zero=>intro v h;omega
 |succ f ih=>
  intro v hf;rw[Lib.decDigits];by_cases h:v<10
  ·rw[dif_pos h]
   obtain⟨d1,d2⟩:=yos h;have ht:(UInt8.ofNat (48+v)).toNat=48+v:=by simp;omega
   refine⟨?_,by simp,fun hv=> ?_,fun c hc=> ?_,fun k _=>by simp⟩
   ·simp only[ja,d1,d2,Bool.not_false,Bool.and_true,cond_true]
    simp
   ·simp only[List.head?_cons,ne_eq,Option.some.injEq]
    intro e;have:=congrArg UInt8.toNat e;rw[ht]at this;have h48:(48:UInt8).toNat=48:=rfl;omega
   ·rw[List.mem_singleton.1 hc,ht];omega
  ·rw[dif_neg h]
   obtain⟨i1,i2,i3,i4,i5⟩:=ih (v/10) (by omega);obtain⟨d1,d2⟩:=yos (k:=v %10) (by omega);have ht:(UInt8.ofNat (48+v %10)).toNat=48+v %10:=by simp;omega
   refine⟨?_,by simp,fun hv=> ?_,fun c hc=> ?_,fun k hk=> ?_⟩
   ·rw[xdq,i1]
    simp only[Option.bind_some,ja,d1,d2,Bool.not_false,Bool.and_true,cond_true];congr 1;omega
   ·have:=i3 (by omega)
    cases hd:Lib.decDigits (v/10)with
    |nil=>exact absurd hd i2
    |cons a r=>rw[hd]at this;simpa using this
   ·rcases List.mem_append.1 hc with hc|hc
    ·exact i4 c hc
    ·rw[List.mem_singleton.1 hc,ht];omega
   ·cases k with
    |zero=>simp at hk;omega
    |succ k=>
     have:=i5 k (by rw[Nat.pow_succ]at hk;omega);simp;omega
theorem zos{x:Int}(h0:0≤x)(h1:x<1000000000):za2 (dg x)=some x.toNat:=by
 rw[you h0 (by omega)];obtain⟨p1,p2,p3,p4,p5⟩:=yov (x.toNat+1) x.toNat (by omega);unfold za2;have e1:(Lib.decDigits x.toNat).isEmpty=false:=by cases h:Lib.decDigits x.toNat with|nil=>exact absurd h p2|cons a r=>rfl
 have e2:decide (9<(Lib.decDigits x.toNat).length)=false:=by
  rw[decide_eq_false_iff_not];have:=p5 8 (by simp;omega);omega
 have e3:we (Lib.decDigits x.toNat)=false:=by
  by_cases hv:0<x.toNat
  ·have:=p3 hv
   cases h:Lib.decDigits x.toNat with
   |nil=>rfl
   |cons a r=>
    cases r with
    |nil=>rfl
    |cons b r=>rw[h]at this;simp only[we];simpa using this
  ·have:x.toNat=0:=by omega
   rw[this,Lib.decDigits];rfl
 rw[e1,e2,e3];exact p1
theorem zot{x:Int}(h0:0≤x)(h1:x<1000000000)(c:UInt8)(hc:c.toNat<48):c∉dg x:=by
 rw[you h0 (by omega)];obtain⟨_,_,_,p4,_⟩:=yov (x.toNat+1) x.toNat (by omega);intro h;have:=p4 c h;omega
theorem zqj(c:UInt8):∀(w:List UInt8) (ws:List (List UInt8)),(∀x∈w::ws,c∉x)→splitB c (xi [c] (w::ws))=w::ws
 |w,[],h=>by rw[xi];exact zlm (h w (List.mem_cons_self ..))
 |w,v::r,h=>by
  have ih:=zqj c v r fun x hx=>h x (List.mem_cons_of_mem _ hx);rw[xi]
  ·rw[show [c]++xi [c] (v::r)=c::xi [c] (v::r)from rfl,zln _ (h w (List.mem_cons_self ..)),ih]
  ·exact fun h=>by cases h
theorem yqu:∀l:List (Int×Int),(∀x∈l,(0≤x.1∧x.1<1000000000)∧(0≤x.2∧x.2<1000000000))→∃m,vf (ur l)=some m∧pairs m=l
 | [],_=>⟨[],rfl,rfl⟩
 |x::r,h=>by
  obtain⟨m,h1,h2⟩:=yqu r fun y hy=>h y (List.mem_cons_of_mem _ hy);obtain⟨⟨a1,a2⟩,b1,b2⟩:=h x (List.mem_cons_self ..);refine⟨x.1::x.2::m,?_,?_⟩
  ·simp only[ur,vf,zos a1 a2,zos b1 b2,h1]
   rw[Int.toNat_of_nonneg a1,Int.toNat_of_nonneg b1]
  ·simp[pairs,h2]
structure Cz.pr (c:Cz):Prop where
 nm:c.n≠ []∧32∉c.n∧10∉c.n
 ch:0≤c.c∧c.c<1000000000
 lo:∀x∈c.l,(0≤x.1∧x.1<1000000000)∧(0≤x.2∧x.2<1000000000)
theorem ymw(c:UInt8)(hc:c.toNat<48):∀l:List (Int×Int),(∀x∈l,(0≤x.1∧x.1<1000000000)∧(0≤x.2∧x.2<1000000000))→∀w∈ur l,c∉w
 | [],_,w,hw=>by cases hw
 |x::r,h,w,hw=>by
  obtain⟨⟨a1,a2⟩,b1,b2⟩:=h x (List.mem_cons_self ..);rcases List.mem_cons.1 hw with rfl|hw
  ·exact zot a1 a2 c hc
  ·rcases List.mem_cons.1 hw with rfl|hw
   ·exact zot b1 b2 c hc
   ·exact ymw c hc r (fun y hy=>h y (List.mem_cons_of_mem _ hy)) w hw
theorem zp4{c:Cz}(h:c.pr)(b:UInt8)(hb:b.toNat<48)(hn:b∉c.n):∀w∈jg c,b∉w:=by
 intro w hw;unfold jg at hw;rcases List.mem_cons.1 hw with rfl|hw
 ·intro hm
  have:∀x∈([99,97,117,115,101]:List UInt8),48≤x.toNat:=by decide
  have:=this b hm;omega
 rcases List.mem_cons.1 hw with rfl|hw
 ·exact hn
 rcases List.mem_cons.1 hw with rfl|hw
 ·exact zot h.ch.1 h.ch.2 b hb
 ·exact ymw b hb c.l h.lo w hw
theorem yms(b:UInt8):∀ws:List (List UInt8),(∀w∈ws,b∉w)→b≠32→b∉xi [32] ws
 | [],_,_=>by simp[xi]
 | [w],h,_=>by rw[xi];exact h w (List.mem_cons_self ..)
 |w::v::r,h,hb=>by
  have ih:=yms b (v::r) (fun x hx=>h x (List.mem_cons_of_mem _ hx)) hb;rw[xi]
  ·intro hm
   rcases List.mem_append.1 hm with hm|hm
   ·exact h w (List.mem_cons_self ..) hm
   ·rcases List.mem_append.1 hm with hm|hm
    ·exact hb (List.mem_singleton.1 hm)
    ·exact ih hm
  ·exact fun h=>by cases h
theorem yv7{c:Cz}(h:c.pr):vz (lineS c)=false∧zc2 (lineS c)=⟨c.n,c.c,true,c.l⟩:=by
 have hs:splitB 32 (xi [32] (jg c))=jg c:=zqj 32 _ _ (zp4 h 32 (by decide) h.nm.2.1);obtain⟨m,h1,h2⟩:=yqu c.l h.lo
 have hr:yk (jg c)=some ⟨c.n,c.c,true,c.l⟩:=by
  have hn:(c.n==([]:List UInt8))=false:=by simpa using h.nm.1
  have hl:((ur c.l).length %2==0)=true:=by rw[zit];simp
  have ha:vf (dg c.c::ur c.l)=some (c.c::m):=by
   simp only[vf,zos h.ch.1 h.ch.2,h1];rw[Int.toNat_of_nonneg h.ch.1]
  unfold jg;simp only[yk,hl,hn,ha,h2];rfl
 have hL:=xb1 (xi [32] (jg c));rw[hs,hr]at hL;exact hL
theorem ymn:∀l:List Cz,(∀c∈l,c.pr)→linesB (printS l)=l.map lineS
 | [],_=>rfl
 |c::r,h=>by
  have hc:=h c (List.mem_cons_self ..);have ih:=ymn r fun x hx=>h x (List.mem_cons_of_mem _ hx)
  have e:printS (c::r)=xi [32] (jg c)++10::printS r:=by
   show(lineS c::r.map lineS).flatten=_;unfold lineS;simp[printS,lineS];rfl
  rw[e,znr _ (yms 10 _ (zp4 hc 10 (by decide) hc.nm.2.2) (by decide)),ih];rfl
def zjh(c:Cz):Cz:=⟨c.n,c.c,true,c.l⟩
theorem zqd:∀(l:List Cz) (os:List Cz),(∀c∈l,c.pr)→takeC os (l.map lineS)=(os++l.map zjh,true)
 | [],os,_=>by simp[takeC]
 |c::r,os,h=>by
  obtain⟨h1,h2⟩:=yv7 (h c (List.mem_cons_self ..));simp only[List.map_cons,takeC,h1,h2,cond_false];rw[zqd r _ fun x hx=>h x (List.mem_cons_of_mem _ hx),List.append_assoc];rfl
theorem yw3(l:List Cz)(h:∀c∈l,c.pr)(hl:(printS l).length≤4096)(hk:xa (l.map zjh)=0):zdv (printS l)=(wt 3 ((l.map zjh).map uf),0,0):=by
 unfold zdv;rw[ymn l h,zqd l [] h,List.nil_append,hk];have:decide (4096<(printS l).length)=false:=by rw[decide_eq_false_iff_not];omega
 rw[this];rfl
theorem c27(b:Bool)(l:List Int)(hl:l.length<1000000):(zy T).call 27 [.sl b 1 (l.map zx)] [] 0 []=some (.sl true 1 (l.map zx),[],0,[]):=by
 rw[yn9];cases l with
 |nil=>simp -implicitDefEqProofs only[go_sem,simprocAttr]
 |cons p l=>
  have h8:=(ze (n:=l.length) (by simp at hl;omega)).1;simp -implicitDefEqProofs only[go_sem,simprocAttr,h8]
def uc(k:Nat)(i:Int):Int:=cond (decide (i<0)||decide ((k:Int)≤i)) 10 0
theorem ypu(p:Pk)(i:Int):(zy T).call 192 [.int .i64 i,.pp 3 [zk p] 0 0] [] 0 []=some (.int .i64 (uc p.c.length i),[],0,[]):=by
 rw[xge];unfold uc;cases h:decide (i<0)
 ·simp -implicitDefEqProofs only[go_sem,simprocAttr,zk,h,qo,Bool.false_or]
 ·simp -implicitDefEqProofs only[go_sem,simprocAttr,zk,h,qo,Bool.true_or]
theorem xbp(p:Pk)(b:Bool)(l:List (Int))(hb:l.length<1000000):∀i,i≤l.length→∀o:Option (List (Int)),ka o=i→
  (zy T).loop false [.code (.loop zgq),.inBlock 0,.code (.seq zh5 .ret)] ⟨116,22,0,[(1,.fn 192 [.pp 3 [zk p] 0 0]),(5,kp o 0),(8,.sl b 1 (l.map zx)),(9,.int .i64 l.length),(10,.int .i64 i)],kc zx o 29,0,[]⟩=
   some (.ret (vv zx 0 1 (qj o ((l.drop i).map (fun i=>uc p.c.length i)))),[],0,[]):=by
 refine xv l.length ?_ fun i hi ih o ho=> ?_
 ·intro o ho
  rw[zj];have h1:=xz l.length;cases o with
  |none=>
   simp -implicitDefEqProofs only[go_sem,simprocAttr,h1];simp[qj,vv]
  |some a=>
   simp -implicitDefEqProofs only[go_sem,simprocAttr,h1];simp[qj,vv]
 ·obtain⟨h1,h2,h3,h4,h5⟩:=zr hi (by omega)
  rw[zj,h5];have ih':=ih (qj o [((fun i=>uc p.c.length i) l[i])]) (by rw[jz,ho];rfl);rw[jx]at ih';dsimp only at ih';cases o with
  |none=>
   have h8:=ze (n:=0) (by omega);simp only[jy,zi,z6,List.map_cons,List.map_nil,zx]at ih';simp -implicitDefEqProofs only[go_sem,simprocAttr,h1,h2,h3,h4,ih',h8.2,ypu]
  |some a=>
   have h9:a.length=i:=ho;have h8:=(ze (n:=a.length) (by omega)).1;simp only[qd,zi,z6,List.map_append,List.map_cons,List.map_nil,zx]at ih';simp -implicitDefEqProofs only[go_sem,simprocAttr,h1,h2,h3,h4,ih',h8,ypu]
theorem xl4(p:Pk)(b:Bool)(l:List (Int))(hb:l.length<1000000):(zy T).call 116 [.sl b 1 (l.map zx),.fn 192 [.pp 3 [zk p] 0 0]] [] 0 []=some (wt 1 (((l).map (fun i=>uc p.c.length i)).map zx),[],0,[]):=by
 rw[yoh];have h:=xbp p b l hb 0 (by omega) none rfl;rw[show((0:Nat):Int)=0 from rfl,List.drop_zero,ji]at h;simp only[xk,xu]at h;simp -implicitDefEqProofs only[go_sem,simprocAttr,h]
def ya:List Int→Int
 |x::y::r=>if y≤x then 11 else ya (y::r)
 |_=>0
theorem xmu(x:Int):ya [x]=0:=rfl
theorem xar(b:Bool)(l:List Int)(hb:l.length<1000000):∀i,i≤l.length→1≤i→(zy T).loop false [.code (.loop zj6),.inBlock 0,.code (.seq zme .ret)] ⟨193,20,0,[(0,.sl b 1 (l.map zx)),(3,.int .i64 i)],[],0,[]⟩=some (.ret (.int .i64 (ya (l.drop (i- 1)))),[],0,[]):=by
 refine xv l.length ?_ fun i hi ih h1i=> ?_
 ·intro h1i
  rw[zj];have h1:=xz l.length;rw[List.drop_eq_getElem_cons (by omega),List.drop_of_length_le (by omega),xmu];simp -implicitDefEqProofs only[go_sem,simprocAttr,h1]
 ·obtain⟨h1,h2,h3,h4,h5⟩:=zr hi (by omega)
  obtain⟨g1,g2,g3,g4,g5⟩:=zr (l:=l) (i:=i- 1) (by omega) (by omega);have w:IntKind.i64.wrap ((i:Int)- 1)=((i- 1:Nat):Int):=by rw[wrap64]<;>omega
  have e:l.drop (i- 1)=l[i- 1]::l[i]::l.drop (i+1):=by
   rw[List.drop_eq_getElem_cons (by omega),show i- 1+1=i by omega,h5]
  have ih':=ih (by omega);rw[show i+1- 1=i by omega,h5]at ih';rw[e,zj];simp only[ya];cases h6:decide (l[i]≤l[i- 1])
  ·have h7:¬l[i]≤l[i- 1]:=by simpa using h6
   rw[if_neg h7];simp -implicitDefEqProofs only[go_sem,simprocAttr,h1,h2,h3,h4,g2,g3,w,h6,ih']
  ·have h7:l[i]≤l[i- 1]:=by simpa using h6
   rw[if_pos h7];simp -implicitDefEqProofs only[go_sem,simprocAttr,h1,h2,h3,h4,g2,g3,w,h6]
theorem xk3(b:Bool)(l:List Int)(hb:l.length<1000000):(zy T).call 193 [.sl b 1 (l.map zx)] [] 0 []=some (.int .i64 (ya l),[],0,[]):=by
 rw[xgd];cases l with
 |nil=>
  simp -implicitDefEqProofs only[go_sem,simprocAttr];rw[zj];simp -implicitDefEqProofs only[go_sem,simprocAttr];rfl
 |cons x r=>
  have h:=xar b (x::r) hb 1 (by simp) (by omega);rw[show((1:Nat):Int)=1 from rfl,Nat.sub_self,List.drop_zero]at h;simp -implicitDefEqProofs only[go_sem,simprocAttr];simp only[List.map_cons,zx]at h;simp -implicitDefEqProofs only[go_sem,simprocAttr,h]
def zee(n:Nat)(l:List Int):Int:=fnz [fnz (l.map fun i=>uc n i),ya l]
theorem yne{a b:Int}(h:a=0):fnz [a,b]=b:=by
 simp only[fnz,h,if_true];by_cases hb:b=0<;>simp[hb]
theorem xl0(p:Pk)(b:Bool)(l:List Int)(hf:p.fit)(hb:l.length<1000000):(zy T).call 122 [zk p,.sl b 1 (l.map zx)] [] 0 []=some (.int .i64 (fnz [xy p,zee p.c.length l]),[],0,[]):=by
 rw[xhf];have e1:=c23 p hf;have e2:=xl4 p b l hb;have e3:=fun b=>va b (l.map fun i=>uc p.c.length i) (by simp;omega);have t1:List.map zx (List.map (fun i=>uc p.c.length i) l)=List.map (fun n=>V.int .i64 n) (List.map (fun i=>uc p.c.length i) l):=rfl;rw[t1]at e2;have e4:=xk3 b l hb;have e5:=zjm true (fnz (l.map fun i=>uc p.c.length i)) (ya l);rw[show fnz [fnz (l.map fun i=>uc p.c.length i),ya l]=zee p.c.length l from rfl]at e5;simp only[zk]at e1 e2;cases h:(xy p !=0)
 ·have h0:xy p=0:=by simpa using h
  rw[yne h0];simp -implicitDefEqProofs only[go_sem,simprocAttr,zk,e1,e2,e3,e4,e5,h]
 ·have h0:¬xy p=0:=by simpa using h
  simp -implicitDefEqProofs only[go_sem,simprocAttr,zk,e1,h];simp[fnz,h0]
def q7(x:Int×Int):V:= .agg [.int .i64 x.1,.int .i64 x.2]
attribute [go_sem] q7
theorem yw7(a b:Int×Int)(h:(a.1==b.1&&a.2==b.2)=true):a=b:=by
 simp at h;exact Prod.ext h.1 h.2
theorem yw6(a b:Int×Int)(h:(a.1==b.1&&a.2==b.2)=false):¬a=b:=by
 rintro rfl;simp at h
theorem xbj(b c:Bool)(l m:List (Int×Int))(hb:l.length<1000000)(hm:l.length=m.length):∀i,i≤l.length→(zy T).loop false [.code (.loop zkn),.inBlock 0,.code (.seq zmy .ret)] ⟨127,26,0,[(0,.sl b 2 (l.map jq)),(1,.sl c 2 (m.map jq)),(5,.int .i64 i)],[],0,[]⟩=some (.ret (.bool (decide (l.drop i=m.drop i))),[],0,[]):=by
 refine xv l.length ?_ fun i hi ih=> ?_
 ·rw[zj]
  have h1:=xz l.length;simp -implicitDefEqProofs only[go_sem,simprocAttr,h1];simp[hm]
 ·obtain⟨h1,h2,h3,h4,h5⟩:=zr hi (by omega)
  obtain⟨g1,g2,g3,g4,g5⟩:=zr (l:=m) (i:=i) (by omega) (by omega);rw[zj];cases h6:(l[i].1==m[i].1&&l[i].2==m[i].2)
  ·have h7:=yw6 _ _ h6
   simp -implicitDefEqProofs only[go_sem,simprocAttr,h1,h2,h3,h4,g1,g2,g3,g4,h6];simp only[h5,g5,List.cons.injEq,h7,true_and,false_and,decide_false]
  ·have h7:=yw7 _ _ h6
   simp -implicitDefEqProofs only[go_sem,simprocAttr,h1,h2,h3,h4,g1,g2,g3,g4,h6,ih];simp only[h5,g5,List.cons.injEq,h7,true_and,false_and,decide_false]
theorem xly(b c:Bool)(l m:List (Int×Int))(hb:l.length<1000000):(zy T).call 127 [.sl b 2 (l.map jq),.sl c 2 (m.map jq)] [] 0 []=some (.bool (decide (l=m)),[],0,[]):=by
 rw[xha];cases h:((l.length:Int) !=m.length)
 ·have h1:l.length=m.length:=by simp at h;omega
  have h2:=xbj b c l m hb h1 0 (by omega);rw[show((0:Nat):Int)=0 from rfl,List.drop_zero,List.drop_zero]at h2;simp -implicitDefEqProofs only[go_sem,simprocAttr,h,h2]
 ·have h1:¬l.length=m.length:=by simp at h;omega
  simp -implicitDefEqProofs only[go_sem,simprocAttr,h];have:¬l=m:=fun e=>h1 (by rw[e]);simp[this]
def z0(s:Nat):List (Int×Int):=List.replicate s (0,0)
theorem yv0(s:Nat):List.replicate s (V.agg [.int .i64 0,.int .i64 0])=(z0 s).map jq:=by
 unfold z0;rw[List.map_replicate];rfl
theorem zb5(r:Bool×List Int)(hr:r.2.length<1000):(zy T).call 195 [.sl r.1 1 (r.2.map zx)] [] 0 []=some (.ref 0,[.cells false true 142 ((z0 r.2.length).map jq)],0,[]):=by
 rw[xgc];have d1:decide (0≤(r.2.length:Int)∧(r.2.length:Int)≤(r.2.length:Int)∧(r.2.length:Int)<(maxRow:Int))=true:=decide_eq_true ⟨by omega,by omega,by unfold maxRow;omega⟩;simp -implicitDefEqProofs only[go_sem,simprocAttr,d1,yv0]
theorem ki(n:Nat)(h:n<10):decide (n+1<maxRow)=true:=(ze (by omega)).1
theorem xk2(b:Bool)(r1:Bool×List Int)(hr1:r1.2.length<1000):(zy T).call 194 [.sl b 1 [.sl r1.1 1 (r1.2.map zx)],.fn 195 []] [] 0 []=some (.ref 0,[.cells false false 72 [.ref 1],.cells false true 142 ((z0 r1.2.length).map jq)],0,[]):=by
 rw[zby];simp -implicitDefEqProofs only[go_sem,simprocAttr]
 iterate 1
  rw[zj];simp -implicitDefEqProofs only[go_sem,simprocAttr,zb5,hr1,(ze (n:=0) (by omega)).2,wrap64,Int.reduceAdd]
 rw[zj];simp -implicitDefEqProofs only[go_sem,simprocAttr]
theorem xk1(b:Bool)(r1 r2:Bool×List Int)(hr1:r1.2.length<1000)(hr2:r2.2.length<1000):(zy T).call 194 [.sl b 1 [.sl r1.1 1 (r1.2.map zx),.sl r2.1 1 (r2.2.map zx)],.fn 195 []] [] 0 []=some (.ref 0,[.cells false false 72 [.ref 1,.ref 2],.cells false true 142 ((z0 r1.2.length).map jq),.cells false true 142 ((z0 r2.2.length).map jq)],0,[]):=by
 rw[zby];simp -implicitDefEqProofs only[go_sem,simprocAttr]
 iterate 2
  rw[zj];simp -implicitDefEqProofs only[go_sem,simprocAttr,zb5,hr1,hr2,(ze (n:=0) (by omega)).2,ki 1 (by omega),wrap64,Int.reduceAdd]
 rw[zj];simp -implicitDefEqProofs only[go_sem,simprocAttr]
theorem xk0(b:Bool)(r1 r2 r3:Bool×List Int)(hr1:r1.2.length<1000)(hr2:r2.2.length<1000)(hr3:r3.2.length<1000):(zy T).call 194 [.sl b 1 [.sl r1.1 1 (r1.2.map zx),.sl r2.1 1 (r2.2.map zx),.sl r3.1 1 (r3.2.map zx)],.fn 195 []] [] 0 []=some (.ref 0,[.cells false false 72 [.ref 1,.ref 2,.ref 3],.cells false true 142 ((z0 r1.2.length).map jq),.cells false true 142 ((z0 r2.2.length).map jq),.cells false true 142 ((z0 r3.2.length).map jq)],0,[]):=by
 rw[zby];simp -implicitDefEqProofs only[go_sem,simprocAttr]
 iterate 3
  rw[zj];simp -implicitDefEqProofs only[go_sem,simprocAttr,zb5,hr1,hr2,hr3,(ze (n:=0) (by omega)).2,ki 1 (by omega),ki 2 (by omega),wrap64,Int.reduceAdd]
 rw[zj];simp -implicitDefEqProofs only[go_sem,simprocAttr]
theorem xkz(b:Bool)(r1 r2 r3 r4:Bool×List Int)(hr1:r1.2.length<1000)(hr2:r2.2.length<1000)(hr3:r3.2.length<1000)(hr4:r4.2.length<1000):(zy T).call 194 [.sl b 1 [.sl r1.1 1 (r1.2.map zx),.sl r2.1 1 (r2.2.map zx),.sl r3.1 1 (r3.2.map zx),.sl r4.1 1 (r4.2.map zx)],.fn 195 []] [] 0 []=some (.ref 0,[.cells false false 72 [.ref 1,.ref 2,.ref 3,.ref 4],.cells false true 142 ((z0 r1.2.length).map jq),.cells false true 142 ((z0 r2.2.length).map jq),.cells false true 142 ((z0 r3.2.length).map jq),.cells false true 142 ((z0 r4.2.length).map jq)],0,[]):=by
 rw[zby];simp -implicitDefEqProofs only[go_sem,simprocAttr]
 iterate 4
  rw[zj];simp -implicitDefEqProofs only[go_sem,simprocAttr,zb5,hr1,hr2,hr3,hr4,(ze (n:=0) (by omega)).2,ki 1 (by omega),ki 2 (by omega),ki 3 (by omega),wrap64,Int.reduceAdd]
 rw[zj];simp -implicitDefEqProofs only[go_sem,simprocAttr]
theorem xky(b:Bool)(r1 r2 r3 r4 r5:Bool×List Int)(hr1:r1.2.length<1000)(hr2:r2.2.length<1000)(hr3:r3.2.length<1000)(hr4:r4.2.length<1000)(hr5:r5.2.length<1000):(zy T).call 194 [.sl b 1 [.sl r1.1 1 (r1.2.map zx),.sl r2.1 1 (r2.2.map zx),.sl r3.1 1 (r3.2.map zx),.sl r4.1 1 (r4.2.map zx),.sl r5.1 1 (r5.2.map zx)],.fn 195 []] [] 0 []=some (.ref 0,[.cells false false 72 [.ref 1,.ref 2,.ref 3,.ref 4,.ref 5],.cells false true 142 ((z0 r1.2.length).map jq),.cells false true 142 ((z0 r2.2.length).map jq),.cells false true 142 ((z0 r3.2.length).map jq),.cells false true 142 ((z0 r4.2.length).map jq),.cells false true 142 ((z0 r5.2.length).map jq)],0,[]):=by
 rw[zby];simp -implicitDefEqProofs only[go_sem,simprocAttr]
 iterate 5
  rw[zj];simp -implicitDefEqProofs only[go_sem,simprocAttr,zb5,hr1,hr2,hr3,hr4,hr5,(ze (n:=0) (by omega)).2,ki 1 (by omega),ki 2 (by omega),ki 3 (by omega),ki 4 (by omega),wrap64,Int.reduceAdd]
 rw[zj];simp -implicitDefEqProofs only[go_sem,simprocAttr]
theorem xkx(b:Bool)(r1 r2 r3 r4 r5 r6:Bool×List Int)(hr1:r1.2.length<1000)(hr2:r2.2.length<1000)(hr3:r3.2.length<1000)(hr4:r4.2.length<1000)(hr5:r5.2.length<1000)(hr6:r6.2.length<1000):(zy T).call 194 [.sl b 1 [.sl r1.1 1 (r1.2.map zx),.sl r2.1 1 (r2.2.map zx),.sl r3.1 1 (r3.2.map zx),.sl r4.1 1 (r4.2.map zx),.sl r5.1 1 (r5.2.map zx),.sl r6.1 1 (r6.2.map zx)],.fn 195 []] [] 0 []=some (.ref 0,[.cells false false 72 [.ref 1,.ref 2,.ref 3,.ref 4,.ref 5,.ref 6],.cells false true 142 ((z0 r1.2.length).map jq),.cells false true 142 ((z0 r2.2.length).map jq),.cells false true 142 ((z0 r3.2.length).map jq),.cells false true 142 ((z0 r4.2.length).map jq),.cells false true 142 ((z0 r5.2.length).map jq),.cells false true 142 ((z0 r6.2.length).map jq)],0,[]):=by
 rw[zby];simp -implicitDefEqProofs only[go_sem,simprocAttr]
 iterate 6
  rw[zj];simp -implicitDefEqProofs only[go_sem,simprocAttr,zb5,hr1,hr2,hr3,hr4,hr5,hr6,(ze (n:=0) (by omega)).2,ki 1 (by omega),ki 2 (by omega),ki 3 (by omega),ki 4 (by omega),ki 5 (by omega),wrap64,Int.reduceAdd]
 rw[zj];simp -implicitDefEqProofs only[go_sem,simprocAttr]
theorem xkw(b:Bool)(r1 r2 r3 r4 r5 r6 r7:Bool×List Int)(hr1:r1.2.length<1000)(hr2:r2.2.length<1000)(hr3:r3.2.length<1000)(hr4:r4.2.length<1000)(hr5:r5.2.length<1000)(hr6:r6.2.length<1000)(hr7:r7.2.length<1000):(zy T).call 194 [.sl b 1 [.sl r1.1 1 (r1.2.map zx),.sl r2.1 1 (r2.2.map zx),.sl r3.1 1 (r3.2.map zx),.sl r4.1 1 (r4.2.map zx),.sl r5.1 1 (r5.2.map zx),.sl r6.1 1 (r6.2.map zx),.sl r7.1 1 (r7.2.map zx)],.fn 195 []] [] 0 []=some (.ref 0,[.cells false false 72 [.ref 1,.ref 2,.ref 3,.ref 4,.ref 5,.ref 6,.ref 7],.cells false true 142 ((z0 r1.2.length).map jq),.cells false true 142 ((z0 r2.2.length).map jq),.cells false true 142 ((z0 r3.2.length).map jq),.cells false true 142 ((z0 r4.2.length).map jq),.cells false true 142 ((z0 r5.2.length).map jq),.cells false true 142 ((z0 r6.2.length).map jq),.cells false true 142 ((z0 r7.2.length).map jq)],0,[]):=by
 rw[zby];simp -implicitDefEqProofs only[go_sem,simprocAttr]
 iterate 7
  rw[zj];simp -implicitDefEqProofs only[go_sem,simprocAttr,zb5,hr1,hr2,hr3,hr4,hr5,hr6,hr7,(ze (n:=0) (by omega)).2,ki 1 (by omega),ki 2 (by omega),ki 3 (by omega),ki 4 (by omega),ki 5 (by omega),ki 6 (by omega),wrap64,Int.reduceAdd]
 rw[zj];simp -implicitDefEqProofs only[go_sem,simprocAttr]
theorem xkv(b:Bool)(r1 r2 r3 r4 r5 r6 r7 r8:Bool×List Int)(hr1:r1.2.length<1000)(hr2:r2.2.length<1000)(hr3:r3.2.length<1000)(hr4:r4.2.length<1000)(hr5:r5.2.length<1000)(hr6:r6.2.length<1000)(hr7:r7.2.length<1000)(hr8:r8.2.length<1000):(zy T).call 194 [.sl b 1 [.sl r1.1 1 (r1.2.map zx),.sl r2.1 1 (r2.2.map zx),.sl r3.1 1 (r3.2.map zx),.sl r4.1 1 (r4.2.map zx),.sl r5.1 1 (r5.2.map zx),.sl r6.1 1 (r6.2.map zx),.sl r7.1 1 (r7.2.map zx),.sl r8.1 1 (r8.2.map zx)],.fn 195 []] [] 0 []=some (.ref 0,[.cells false false 72 [.ref 1,.ref 2,.ref 3,.ref 4,.ref 5,.ref 6,.ref 7,.ref 8],.cells false true 142 ((z0 r1.2.length).map jq),.cells false true 142 ((z0 r2.2.length).map jq),.cells false true 142 ((z0 r3.2.length).map jq),.cells false true 142 ((z0 r4.2.length).map jq),.cells false true 142 ((z0 r5.2.length).map jq),.cells false true 142 ((z0 r6.2.length).map jq),.cells false true 142 ((z0 r7.2.length).map jq),.cells false true 142 ((z0 r8.2.length).map jq)],0,[]):=by
 rw[zby];simp -implicitDefEqProofs only[go_sem,simprocAttr]
 iterate 8
  rw[zj];simp -implicitDefEqProofs only[go_sem,simprocAttr,zb5,hr1,hr2,hr3,hr4,hr5,hr6,hr7,hr8,(ze (n:=0) (by omega)).2,ki 1 (by omega),ki 2 (by omega),ki 3 (by omega),ki 4 (by omega),ki 5 (by omega),ki 6 (by omega),ki 7 (by omega),wrap64,Int.reduceAdd]
 rw[zj];simp -implicitDefEqProofs only[go_sem,simprocAttr]
def jm(a b:Int×Int):Int×Int:=(IntKind.i64.wrap (a.1+b.1),IntKind.i64.wrap (a.2+b.2))
def um(n:Nat):List V:=(List.range n).map fun k=> .ref (k+2)
def xl(p:Pk)(R:List (List (Int×Int)))(sb:Bool)(z:Nat)(st:List Int)(t:Nat)(c:Cz)(k:Nat):Option Out:=
 (zy T).loop false [.code (.loop zko),.inBlock 2,.inBlock 1,.code zmz,.inLoop zgo,.inBlock 0,.code (.seq zh3 .ret)]
  ⟨123,64,0,[(2,.ptr 0 0 0),(5,.ref 1),(8,.ptr (R.length+2) 0 0),(14,.sl sb z (st.map zx)),(15,.int .i64 st.length),(16,.int .i64 t),(26,.sl c.b 2 (c.l.map jq)),(27,.int .i64 c.l.length),(28,.int .i64 k)],
   .cells true true 34 [zk p]:: .cells false false 72 (um R.length)::(R.map (fun l=> .cells false true 142 (l.map jq))++ [.cells true true 180 [x8 c]]),0,[]⟩
theorem yt2(p:Pk)(a0:List (Int×Int))(sb:Bool)(z:Nat)(st:List Int)(t:Nat)(c:Cz)(k:Nat)(j:Nat)(hj:c.c=(j:Int))(hjn:j<1)(x:List (Int×Int))(hx: [a0][j]? =some x)(hk:k<c.l.length)(hkx:k<x.length)(hc:c.l.length<1000000)(hxl:x.length<1000000):
  xl p [a0] sb z st t c k=xl p ([a0].set j (x.set k (jm x[k] c.l[k]))) sb z st t c (k+1):=by
 obtain⟨h1,h2,h3,h4,h5⟩:=zr hk (by omega);obtain⟨g1,g2,g3,g4,g5⟩:=zr hkx (by omega);have hs:∀v,(x.set k v)[k]? =some v:=fun v=>by rw[List.getElem?_set_self hkx]
 have hj':j=0:=by omega
 conv=>lhs;unfold xl;rw[zj]
 unfold xl;rcases hj' with rfl
 all_goals
  obtain rfl:=Option.some.inj hx;simp only[um,List.length_cons,List.length_nil,Nat.reduceAdd,List.range_succ,List.range_zero,List.nil_append,List.cons_append,List.map_cons,List.map_nil,List.map_append,List.set_cons_zero,List.set_cons_succ,zk,x8,hj];simp -implicitDefEqProofs only[go_sem,simprocAttr,zk,h1,h2,h3,h4,g2,g3,hj,hkx,List.length_map,List.length_set,List.getElem?_map,jm,List.map_set,List.getElem?_set_self,List.set_set]
theorem yt1(p:Pk)(a0 a1:List (Int×Int))(sb:Bool)(z:Nat)(st:List Int)(t:Nat)(c:Cz)(k:Nat)(j:Nat)(hj:c.c=(j:Int))(hjn:j<2)(x:List (Int×Int))(hx: [a0,a1][j]? =some x)(hk:k<c.l.length)(hkx:k<x.length)(hc:c.l.length<1000000)(hxl:x.length<1000000):
  xl p [a0,a1] sb z st t c k=xl p ([a0,a1].set j (x.set k (jm x[k] c.l[k]))) sb z st t c (k+1):=by
 obtain⟨h1,h2,h3,h4,h5⟩:=zr hk (by omega);obtain⟨g1,g2,g3,g4,g5⟩:=zr hkx (by omega);have hs:∀v,(x.set k v)[k]? =some v:=fun v=>by rw[List.getElem?_set_self hkx]
 have hj':j=0∨j=1:=by omega
 conv=>lhs;unfold xl;rw[zj]
 unfold xl;rcases hj' with rfl|rfl
 all_goals
  obtain rfl:=Option.some.inj hx;simp only[um,List.length_cons,List.length_nil,Nat.reduceAdd,List.range_succ,List.range_zero,List.nil_append,List.cons_append,List.map_cons,List.map_nil,List.map_append,List.set_cons_zero,List.set_cons_succ,zk,x8,hj];simp -implicitDefEqProofs only[go_sem,simprocAttr,zk,h1,h2,h3,h4,g2,g3,hj,hkx,List.length_map,List.length_set,List.getElem?_map,jm,List.map_set,List.getElem?_set_self,List.set_set]
theorem yt0(p:Pk)(a0 a1 a2:List (Int×Int))(sb:Bool)(z:Nat)(st:List Int)(t:Nat)(c:Cz)(k:Nat)(j:Nat)(hj:c.c=(j:Int))(hjn:j<3)(x:List (Int×Int))(hx: [a0,a1,a2][j]? =some x)(hk:k<c.l.length)(hkx:k<x.length)(hc:c.l.length<1000000)(hxl:x.length<1000000):
  xl p [a0,a1,a2] sb z st t c k=xl p ([a0,a1,a2].set j (x.set k (jm x[k] c.l[k]))) sb z st t c (k+1):=by
 obtain⟨h1,h2,h3,h4,h5⟩:=zr hk (by omega);obtain⟨g1,g2,g3,g4,g5⟩:=zr hkx (by omega);have hs:∀v,(x.set k v)[k]? =some v:=fun v=>by rw[List.getElem?_set_self hkx]
 have hj':j=0∨j=1∨j=2:=by omega
 conv=>lhs;unfold xl;rw[zj]
 unfold xl;rcases hj' with rfl|rfl|rfl
 all_goals
  obtain rfl:=Option.some.inj hx;simp only[um,List.length_cons,List.length_nil,Nat.reduceAdd,List.range_succ,List.range_zero,List.nil_append,List.cons_append,List.map_cons,List.map_nil,List.map_append,List.set_cons_zero,List.set_cons_succ,zk,x8,hj];simp -implicitDefEqProofs only[go_sem,simprocAttr,zk,h1,h2,h3,h4,g2,g3,hj,hkx,List.length_map,List.length_set,List.getElem?_map,jm,List.map_set,List.getElem?_set_self,List.set_set]
theorem ytz(p:Pk)(a0 a1 a2 a3:List (Int×Int))(sb:Bool)(z:Nat)(st:List Int)(t:Nat)(c:Cz)(k:Nat)(j:Nat)(hj:c.c=(j:Int))(hjn:j<4)(x:List (Int×Int))(hx: [a0,a1,a2,a3][j]? =some x)(hk:k<c.l.length)(hkx:k<x.length)(hc:c.l.length<1000000)(hxl:x.length<1000000):
  xl p [a0,a1,a2,a3] sb z st t c k=xl p ([a0,a1,a2,a3].set j (x.set k (jm x[k] c.l[k]))) sb z st t c (k+1):=by
 obtain⟨h1,h2,h3,h4,h5⟩:=zr hk (by omega);obtain⟨g1,g2,g3,g4,g5⟩:=zr hkx (by omega);have hs:∀v,(x.set k v)[k]? =some v:=fun v=>by rw[List.getElem?_set_self hkx]
 have hj':j=0∨j=1∨j=2∨j=3:=by omega
 conv=>lhs;unfold xl;rw[zj]
 unfold xl;rcases hj' with rfl|rfl|rfl|rfl
 all_goals
  obtain rfl:=Option.some.inj hx;simp only[um,List.length_cons,List.length_nil,Nat.reduceAdd,List.range_succ,List.range_zero,List.nil_append,List.cons_append,List.map_cons,List.map_nil,List.map_append,List.set_cons_zero,List.set_cons_succ,zk,x8,hj];simp -implicitDefEqProofs only[go_sem,simprocAttr,zk,h1,h2,h3,h4,g2,g3,hj,hkx,List.length_map,List.length_set,List.getElem?_map,jm,List.map_set,List.getElem?_set_self,List.set_set]
theorem yty(p:Pk)(a0 a1 a2 a3 a4:List (Int×Int))(sb:Bool)(z:Nat)(st:List Int)(t:Nat)(c:Cz)(k:Nat)(j:Nat)(hj:c.c=(j:Int))(hjn:j<5)(x:List (Int×Int))(hx: [a0,a1,a2,a3,a4][j]? =some x)(hk:k<c.l.length)(hkx:k<x.length)(hc:c.l.length<1000000)(hxl:x.length<1000000):
  xl p [a0,a1,a2,a3,a4] sb z st t c k=xl p ([a0,a1,a2,a3,a4].set j (x.set k (jm x[k] c.l[k]))) sb z st t c (k+1):=by
 obtain⟨h1,h2,h3,h4,h5⟩:=zr hk (by omega);obtain⟨g1,g2,g3,g4,g5⟩:=zr hkx (by omega);have hs:∀v,(x.set k v)[k]? =some v:=fun v=>by rw[List.getElem?_set_self hkx]
 have hj':j=0∨j=1∨j=2∨j=3∨j=4:=by omega
 conv=>lhs;unfold xl;rw[zj]
 unfold xl;rcases hj' with rfl|rfl|rfl|rfl|rfl
 all_goals
  obtain rfl:=Option.some.inj hx;simp only[um,List.length_cons,List.length_nil,Nat.reduceAdd,List.range_succ,List.range_zero,List.nil_append,List.cons_append,List.map_cons,List.map_nil,List.map_append,List.set_cons_zero,List.set_cons_succ,zk,x8,hj];simp -implicitDefEqProofs only[go_sem,simprocAttr,zk,h1,h2,h3,h4,g2,g3,hj,hkx,List.length_map,List.length_set,List.getElem?_map,jm,List.map_set,List.getElem?_set_self,List.set_set]
theorem ytx(p:Pk)(a0 a1 a2 a3 a4 a5:List (Int×Int))(sb:Bool)(z:Nat)(st:List Int)(t:Nat)(c:Cz)(k:Nat)(j:Nat)(hj:c.c=(j:Int))(hjn:j<6)(x:List (Int×Int))(hx: [a0,a1,a2,a3,a4,a5][j]? =some x)(hk:k<c.l.length)(hkx:k<x.length)(hc:c.l.length<1000000)(hxl:x.length<1000000):
  xl p [a0,a1,a2,a3,a4,a5] sb z st t c k=xl p ([a0,a1,a2,a3,a4,a5].set j (x.set k (jm x[k] c.l[k]))) sb z st t c (k+1):=by
 obtain⟨h1,h2,h3,h4,h5⟩:=zr hk (by omega);obtain⟨g1,g2,g3,g4,g5⟩:=zr hkx (by omega);have hs:∀v,(x.set k v)[k]? =some v:=fun v=>by rw[List.getElem?_set_self hkx]
 have hj':j=0∨j=1∨j=2∨j=3∨j=4∨j=5:=by omega
 conv=>lhs;unfold xl;rw[zj]
 unfold xl;rcases hj' with rfl|rfl|rfl|rfl|rfl|rfl
 all_goals
  obtain rfl:=Option.some.inj hx;simp only[um,List.length_cons,List.length_nil,Nat.reduceAdd,List.range_succ,List.range_zero,List.nil_append,List.cons_append,List.map_cons,List.map_nil,List.map_append,List.set_cons_zero,List.set_cons_succ,zk,x8,hj];simp -implicitDefEqProofs only[go_sem,simprocAttr,zk,h1,h2,h3,h4,g2,g3,hj,hkx,List.length_map,List.length_set,List.getElem?_map,jm,List.map_set,List.getElem?_set_self,List.set_set]
theorem ytw(p:Pk)(a0 a1 a2 a3 a4 a5 a6:List (Int×Int))(sb:Bool)(z:Nat)(st:List Int)(t:Nat)(c:Cz)(k:Nat)(j:Nat)(hj:c.c=(j:Int))(hjn:j<7)(x:List (Int×Int))(hx: [a0,a1,a2,a3,a4,a5,a6][j]? =some x)(hk:k<c.l.length)(hkx:k<x.length)(hc:c.l.length<1000000)(hxl:x.length<1000000):
  xl p [a0,a1,a2,a3,a4,a5,a6] sb z st t c k=xl p ([a0,a1,a2,a3,a4,a5,a6].set j (x.set k (jm x[k] c.l[k]))) sb z st t c (k+1):=by
 obtain⟨h1,h2,h3,h4,h5⟩:=zr hk (by omega);obtain⟨g1,g2,g3,g4,g5⟩:=zr hkx (by omega);have hs:∀v,(x.set k v)[k]? =some v:=fun v=>by rw[List.getElem?_set_self hkx]
 have hj':j=0∨j=1∨j=2∨j=3∨j=4∨j=5∨j=6:=by omega
 conv=>lhs;unfold xl;rw[zj]
 unfold xl;rcases hj' with rfl|rfl|rfl|rfl|rfl|rfl|rfl
 all_goals
  obtain rfl:=Option.some.inj hx;simp only[um,List.length_cons,List.length_nil,Nat.reduceAdd,List.range_succ,List.range_zero,List.nil_append,List.cons_append,List.map_cons,List.map_nil,List.map_append,List.set_cons_zero,List.set_cons_succ,zk,x8,hj];simp -implicitDefEqProofs only[go_sem,simprocAttr,zk,h1,h2,h3,h4,g2,g3,hj,hkx,List.length_map,List.length_set,List.getElem?_map,jm,List.map_set,List.getElem?_set_self,List.set_set]
theorem ytv(p:Pk)(a0 a1 a2 a3 a4 a5 a6 a7:List (Int×Int))(sb:Bool)(z:Nat)(st:List Int)(t:Nat)(c:Cz)(k:Nat)(j:Nat)(hj:c.c=(j:Int))(hjn:j<8)(x:List (Int×Int))(hx: [a0,a1,a2,a3,a4,a5,a6,a7][j]? =some x)(hk:k<c.l.length)(hkx:k<x.length)(hc:c.l.length<1000000)(hxl:x.length<1000000):
  xl p [a0,a1,a2,a3,a4,a5,a6,a7] sb z st t c k=xl p ([a0,a1,a2,a3,a4,a5,a6,a7].set j (x.set k (jm x[k] c.l[k]))) sb z st t c (k+1):=by
 obtain⟨h1,h2,h3,h4,h5⟩:=zr hk (by omega);obtain⟨g1,g2,g3,g4,g5⟩:=zr hkx (by omega);have hs:∀v,(x.set k v)[k]? =some v:=fun v=>by rw[List.getElem?_set_self hkx]
 have hj':j=0∨j=1∨j=2∨j=3∨j=4∨j=5∨j=6∨j=7:=by omega
 conv=>lhs;unfold xl;rw[zj]
 unfold xl;rcases hj' with rfl|rfl|rfl|rfl|rfl|rfl|rfl|rfl
 all_goals
  obtain rfl:=Option.some.inj hx;simp only[um,List.length_cons,List.length_nil,Nat.reduceAdd,List.range_succ,List.range_zero,List.nil_append,List.cons_append,List.map_cons,List.map_nil,List.map_append,List.set_cons_zero,List.set_cons_succ,zk,x8,hj];simp -implicitDefEqProofs only[go_sem,simprocAttr,zk,h1,h2,h3,h4,g2,g3,hj,hkx,List.length_map,List.length_set,List.getElem?_map,jm,List.map_set,List.getElem?_set_self,List.set_set]
theorem zf4{α:Type}{R:List α}(h:0<R.length)(h8:R.length≤8):(∃a0,R= [a0])∨(∃a0 a1,R= [a0,a1])∨(∃a0 a1 a2,R= [a0,a1,a2])∨(∃a0 a1 a2 a3,R= [a0,a1,a2,a3])∨(∃a0 a1 a2 a3 a4,R= [a0,a1,a2,a3,a4])∨(∃a0 a1 a2 a3 a4 a5,R= [a0,a1,a2,a3,a4,a5])∨(∃a0 a1 a2 a3 a4 a5 a6,R= [a0,a1,a2,a3,a4,a5,a6])∨(∃a0 a1 a2 a3 a4 a5 a6 a7,R= [a0,a1,a2,a3,a4,a5,a6,a7]):=by
 match R,h,h8 with
 | [a0],_,_=>exact .inl ⟨a0,rfl⟩
 | [a0,a1],_,_=>exact .inr (.inl ⟨a0,a1,rfl⟩)
 | [a0,a1,a2],_,_=>exact .inr (.inr (.inl ⟨a0,a1,a2,rfl⟩))
 | [a0,a1,a2,a3],_,_=>exact .inr (.inr (.inr (.inl ⟨a0,a1,a2,a3,rfl⟩)))
 | [a0,a1,a2,a3,a4],_,_=>exact .inr (.inr (.inr (.inr (.inl ⟨a0,a1,a2,a3,a4,rfl⟩))))
 | [a0,a1,a2,a3,a4,a5],_,_=>exact .inr (.inr (.inr (.inr (.inr (.inl ⟨a0,a1,a2,a3,a4,a5,rfl⟩)))))
 | [a0,a1,a2,a3,a4,a5,a6],_,_=>exact .inr (.inr (.inr (.inr (.inr (.inr (.inl ⟨a0,a1,a2,a3,a4,a5,a6,rfl⟩))))))
 | [a0,a1,a2,a3,a4,a5,a6,a7],_,_=>exact .inr (.inr (.inr (.inr (.inr (.inr (.inr ⟨a0,a1,a2,a3,a4,a5,a6,a7,rfl⟩))))))
 |_::_::_::_::_::_::_::_::_::_,_,h=>exact absurd h (by simp only[List.length_cons];omega)
theorem yt3(p:Pk)(R:List (List (Int×Int)))(h0:0<R.length)(h8:R.length≤8)(sb:Bool)(z:Nat)(st:List Int)(t:Nat)(c:Cz)(k:Nat)(j:Nat)(hj:c.c=(j:Int))(hjn:j<R.length)(x:List (Int×Int))(hx:R[j]? =some x)(hk:k<c.l.length)(hkx:k<x.length)(hc:c.l.length<1000000)(hxl:x.length<1000000):
  xl p R sb z st t c k=xl p (R.set j (x.set k (jm x[k] c.l[k]))) sb z st t c (k+1):=by
 rcases zf4 h0 h8 with⟨a0,rfl⟩|⟨a0,a1,rfl⟩|⟨a0,a1,a2,rfl⟩|⟨a0,a1,a2,a3,rfl⟩|⟨a0,a1,a2,a3,a4,rfl⟩|⟨a0,a1,a2,a3,a4,a5,rfl⟩|⟨a0,a1,a2,a3,a4,a5,a6,rfl⟩|⟨a0,a1,a2,a3,a4,a5,a6,a7,rfl⟩
 ·exact yt2 p a0 sb z st t c k j hj hjn x hx hk hkx hc hxl
 ·exact yt1 p a0 a1 sb z st t c k j hj hjn x hx hk hkx hc hxl
 ·exact yt0 p a0 a1 a2 sb z st t c k j hj hjn x hx hk hkx hc hxl
 ·exact ytz p a0 a1 a2 a3 sb z st t c k j hj hjn x hx hk hkx hc hxl
 ·exact yty p a0 a1 a2 a3 a4 sb z st t c k j hj hjn x hx hk hkx hc hxl
 ·exact ytx p a0 a1 a2 a3 a4 a5 sb z st t c k j hj hjn x hx hk hkx hc hxl
 ·exact ytw p a0 a1 a2 a3 a4 a5 a6 sb z st t c k j hj hjn x hx hk hkx hc hxl
 ·exact ytv p a0 a1 a2 a3 a4 a5 a6 a7 sb z st t c k j hj hjn x hx hk hkx hc hxl
def vh(x l:List (Int×Int)):List (Int×Int):=List.zipWith jm x l
def part(x l:List (Int×Int))(k:Nat):List (Int×Int):=(vh x l).take k++x.drop k
theorem zgt{x l:List (Int×Int)}(h:x.length=l.length):(vh x l).length=l.length:=by simp[vh,h]
theorem ywz{x l:List (Int×Int)}(h:x.length=l.length)(k:Nat)(hk:k≤l.length):(part x l k).length=l.length:=by
 simp[part,zgt h];omega
theorem yw0{x l:List (Int×Int)}(h:x.length=l.length)(k:Nat)(hk:k<l.length):(part x l k)[k]? =some (x[k]'(by omega)):=by
 unfold part;have:((vh x l).take k).length=k:=by simp[zgt h];omega
 rw[List.getElem?_append_right (by omega),this,Nat.sub_self,List.getElem?_drop,Nat.add_zero,List.getElem?_eq_getElem (by omega)]
theorem ywy{x l:List (Int×Int)}(h:x.length=l.length)(k:Nat)(hk:k<l.length):(part x l k).set k (jm (x[k]'(by omega)) l[k])=part x l (k+1):=by
 unfold part;have h1:((vh x l).take k).length=k:=by simp[zgt h];omega
 rw[List.set_append_right _ _ (by omega),h1,Nat.sub_self,List.drop_eq_getElem_cons (show k<x.length by omega),List.set_cons_zero,List.take_succ_eq_append_getElem (by rw[zgt h];exact hk),List.append_assoc];congr 1;simp[vh]
theorem xbk(p:Pk)(R:List (List (Int×Int)))(h0:0<R.length)(h8:R.length≤8)(sb:Bool)(z:Nat)(st:List Int)(t:Nat)(c:Cz)(j:Nat)(hj:c.c=(j:Int))(hjn:j<R.length)(x:List (Int×Int))(hxl:x.length=c.l.length)(hc:c.l.length<1000000):∀k,k≤c.l.length→
  xl p (R.set j (part x c.l k)) sb z st t c k=xl p (R.set j (vh x c.l)) sb z st t c c.l.length:=by
 refine xv c.l.length ?_ fun k hk ih=> ?_
 ·have:part x c.l c.l.length=vh x c.l:=by
   unfold part;rw[List.take_of_length_le (by rw[zgt hxl];exact Nat.le_refl _),List.drop_of_length_le (by omega),List.append_nil]
  rw[this]
 ·rw[←ih,←ywy hxl k hk]
  have hl:=ywz hxl k (by omega);have hg:=yw0 hxl k hk;have hkk:k<(part x c.l k).length:=by omega
  have hg2:(part x c.l k)[k]=x[k]'(by omega):=by
   have:=hg;rw[List.getElem?_eq_getElem hkk]at this;exact Option.some.inj this
  rw[yt3 p (R.set j (part x c.l k)) (by simpa using h0) (by simpa using h8) sb z st t c k j hj (by simpa using hjn) (part x c.l k) (by rw[List.getElem?_set_self (by simpa using hjn)]) hk hkk hc (by omega),List.set_set,hg2]
def zbh(p:Pk)(R:List (List (Int×Int)))(sb:Bool)(z:Nat)(st:List Int)(t:Nat):Option Out:=
 (zy T).loop false [.code (.loop zgo),.inBlock 0,.code (.seq zh3 .ret)]
  ⟨123,64,0,[(2,.ptr 0 0 0),(5,.ref 1),(14,.sl sb z (st.map zx)),(15,.int .i64 st.length),(16,.int .i64 t)],
   .cells true true 34 [zk p]:: .cells false false 72 (um R.length)::R.map (fun l=> .cells false true 142 (l.map jq)),0,[]⟩
def ud(r:Bool×List (Int×Int)):V:= .sl r.1 2 (r.2.map jq)
attribute [go_sem] ud
def rvT(l:List (Int×Int)):Bool×List (Int×Int):=(true,l)
theorem xex(p:Pk)(R:List (List (Int×Int)))(h0:0<R.length)(h8:R.length≤8)(sb:Bool)(z:Nat)(st:List Int)(t:Nat)(ht:t<1000000)(c:Cz):xl p R sb z st t c c.l.length=zbh p R sb z st (t+1):=by
 have h1:=xz c.l.length;have h4:IntKind.i64.wrap ((t:Int)+1)=((t+1:Nat):Int):=by rw[wrap64]<;>omega
 unfold xl zbh;rw[zj];rcases zf4 h0 h8 with⟨a0,rfl⟩|⟨a0,a1,rfl⟩|⟨a0,a1,a2,rfl⟩|⟨a0,a1,a2,a3,rfl⟩|⟨a0,a1,a2,a3,a4,rfl⟩|⟨a0,a1,a2,a3,a4,a5,rfl⟩|⟨a0,a1,a2,a3,a4,a5,a6,rfl⟩|⟨a0,a1,a2,a3,a4,a5,a6,a7,rfl⟩
 all_goals
  simp only[um,List.length_cons,List.length_nil,Nat.reduceAdd,List.range_succ,List.range_zero,List.nil_append,List.cons_append,List.map_cons,List.map_nil,List.map_append,zk,x8];simp -implicitDefEqProofs only[go_sem,simprocAttr,h1,h4]
theorem xdk(p:Pk)(R:List (List (Int×Int)))(h0:0<R.length)(h8:R.length≤8)(sb:Bool)(st:List Int)(t:Nat)(ht:t<st.length)(hs:st.length<1000000)(c:Cz)(hd:decide (0≤st[t]∧st[t]<(p.c.length:Int))=true)(hc:p.c[st[t].toNat]? =some c):zbh p R sb 1 st t=xl p R sb 1 st t c 0:=by
 obtain⟨h1,h2,h3,h4,h5⟩:=zr ht (by omega)
 conv=>lhs;unfold zbh;rw[zj]
 unfold xl;rw[show((0:Nat):Int)=0 from rfl];rcases zf4 h0 h8 with⟨a0,rfl⟩|⟨a0,a1,rfl⟩|⟨a0,a1,a2,rfl⟩|⟨a0,a1,a2,a3,rfl⟩|⟨a0,a1,a2,a3,a4,rfl⟩|⟨a0,a1,a2,a3,a4,a5,rfl⟩|⟨a0,a1,a2,a3,a4,a5,a6,rfl⟩|⟨a0,a1,a2,a3,a4,a5,a6,a7,rfl⟩
 all_goals
  simp only[um,List.length_cons,List.length_nil,Nat.reduceAdd,List.range_succ,List.range_zero,List.nil_append,List.cons_append,List.map_cons,List.map_nil,List.map_append,zk,x8];simp -implicitDefEqProofs only[go_sem,simprocAttr,h1,h2,h3,hd,hc]
theorem xh5(p:Pk)(R:List (List (Int×Int)))(h0:0<R.length)(h8:R.length≤8)(sb:Bool)(z:Nat)(st:List Int):zbh p R sb z st st.length=some (.ret (.sl true 1 ((R.map rvT).map ud)),[],0,[]):=by
 have h1:=xz st.length;unfold zbh;rw[zj];rcases zf4 h0 h8 with⟨a0,rfl⟩|⟨a0,a1,rfl⟩|⟨a0,a1,a2,rfl⟩|⟨a0,a1,a2,a3,rfl⟩|⟨a0,a1,a2,a3,a4,rfl⟩|⟨a0,a1,a2,a3,a4,a5,rfl⟩|⟨a0,a1,a2,a3,a4,a5,a6,rfl⟩|⟨a0,a1,a2,a3,a4,a5,a6,a7,rfl⟩
 all_goals
  simp only[um,List.length_cons,List.length_nil,Nat.reduceAdd,List.range_succ,List.range_zero,List.nil_append,List.cons_append,List.map_cons,List.map_nil,List.map_append,zk,rvT];simp -implicitDefEqProofs only[go_sem,simprocAttr,h1]
def lsF:List (Nat×List (Int×Int))→List (List (Int×Int))→List (List (Int×Int))
 | [],R=>R
 |c::cs,R=>lsF cs (R.set c.1 (vh (R.getD c.1 []) c.2))
def yh(i k:Nat):List (Nat×List (Int×Int))→Int×Int→Int×Int
 | [],x=>x
 |c::cs,x=>yh i k cs (if c.1=i then jm x (c.2.getD k (0,0))else x)
def tab{α:Type}(n s:Nat)(f:Nat→Nat→α):List (List α):=(List.range n).map fun i=>(List.range s).map fun k=>f i k
theorem yzt:∀(cs:List (Nat×List (Int×Int))) (R:List (List (Int×Int))),(lsF cs R).length=R.length:=by
 intro cs
 induction cs with
 |nil=>intro R;rfl
 |cons c cs ih=>intro R;simp only[lsF];rw[ih,List.length_set]
theorem zqo{R:List (List (Int×Int))}{s j:Nat}{l:List (Int×Int)}(hR:∀x∈R,x.length=s)(hj:j<R.length)(hl:l.length=s):∀x∈R.set j (vh (R.getD j []) l),x.length=s:=by
 intro x hx
 have hm:(R.getD j [])∈R:=by
  rw[List.getD_eq_getElem?_getD,List.getElem?_eq_getElem hj];exact List.getElem_mem hj
 rcases List.mem_or_eq_of_mem_set hx with h|h
 ·exact hR x h
 ·rw[h];unfold vh;rw[List.length_zipWith,hR _ hm,hl,Nat.min_self]
theorem tab_self{R:List (List (Int×Int))}{s:Nat}(hR:∀x∈R,x.length=s):R=tab R.length s fun i k=>(R.getD i []).getD k (0,0):=by
 unfold tab;apply List.ext_getElem
 ·simp
 ·intro i h1 h2
  have hs:=hR _ (List.getElem_mem h1);simp only[List.getElem_map,List.getElem_range];apply List.ext_getElem
  ·simp[hs]
  ·intro k h3 h4
   simp[List.getD_eq_getElem?_getD,List.getElem?_eq_getElem h1,List.getElem?_eq_getElem h3]
theorem yzs(s:Nat):∀(cs:List (Nat×List (Int×Int))) (R:List (List (Int×Int))),(∀x∈R,x.length=s)→(∀c∈cs,c.1<R.length∧c.2.length=s)→
  lsF cs R=tab R.length s fun i k=>yh i k cs ((R.getD i []).getD k (0,0)):=by
 intro cs
 induction cs with
 |nil=>intro R hR _;exact tab_self hR
 |cons c cs ih=>
  intro R hR hc;obtain⟨c1,c2⟩:=hc c (by simp);simp only[lsF];rw[ih _ (zqo hR c1 c2) (fun d hd=>by rw[List.length_set];exact hc d (by simp[hd])),List.length_set];unfold tab;apply List.map_congr_left;intro i hi;rw[List.mem_range]at hi;apply List.map_congr_left;intro k hk;rw[List.mem_range]at hk;simp only[yh];congr 1;by_cases h:c.1=i
  ·subst h
   have e1:(R.set c.1 (vh (R.getD c.1 []) c.2)).getD c.1 []=vh (R.getD c.1 []) c.2:=by
    rw[List.getD_eq_getElem?_getD,List.getElem?_set_self hi];rfl
   rw[e1,if_pos rfl];have e2:(R.getD c.1 []).length=s:=hR _ (by rw[List.getD_eq_getElem?_getD,List.getElem?_eq_getElem hi];exact List.getElem_mem hi);generalize R.getD c.1 []=y at e2⊢;unfold vh;simp only[List.getD_eq_getElem?_getD,List.getElem?_zipWith];have q1:y[k]? =some (y[k]'(by omega)):=List.getElem?_eq_getElem _;have q2:c.2[k]? =some (c.2[k]'(by omega)):=List.getElem?_eq_getElem _;rw[q1,q2];rfl
  ·have e1:(R.set c.1 (vh (R.getD c.1 []) c.2)).getD i []=R.getD i []:=by
    rw[List.getD_eq_getElem?_getD,List.getElem?_set_ne h,←List.getD_eq_getElem?_getD]
   rw[e1,if_neg h]
def gu(nz n:Int)(x:Int×Int):Bool:=decide (n<Go.IntKind.i64.wrap (x.1- nz))||decide (Go.IntKind.i64.wrap (x.2+nz)<n)
def rowP(nz:Int)(i:Nat):Nat→List Int→List (Int×Int)→List (Int×Int)
 |k,n::r,x::l=>bif gu nz n x then((i:Int),(k:Int))::rowP nz i (k+1) r l else rowP nz i (k+1) r l
 |_,_,_=> []
def allP(nz:Int):Nat→List (List Int)→List (List (Int×Int))→List (Int×Int)
 |i,r::R,l::L=>rowP nz i 0 r l++allP nz (i+1) R L
 |_,_,_=> []
theorem yvg(nz:Int)(i:Nat):∀(r:List Int) (k:Nat) (l:List (Int×Int)),(rowP nz i k r l).length≤r.length:=by
 intro r
 induction r with
 |nil=>intro k l;simp[rowP]
 |cons n r ih=>
  intro k l;cases l with
  |nil=>simp[rowP]
  |cons x l=>
   simp only[rowP];cases gu nz n x
   ·simp;exact Nat.le_succ_of_le (ih _ _)
   ·simp;exact ih _ _
theorem xm4(nz:Int)(s:Nat):∀(R:List (List Int)) (i:Nat) (L:List (List (Int×Int))),(∀r∈R,r.length≤s)→(allP nz i R L).length≤R.length*s:=by
 intro R
 induction R with
 |nil=>intro i L h;simp[allP]
 |cons r R ih=>
  intro i L h;cases L with
  |nil=>simp[allP]
  |cons l L=>
   simp only[allP,List.length_append,List.length_cons];have h1:=yvg nz i r 0 l;have h2:=h r (by simp);have h3:=ih (i+1) L (fun x hx=>h x (by simp[hx]));rw[Nat.add_mul];omega
def cPr(c:Cz):Nat×List (Int×Int):=(c.c.toNat,c.l)
def ux(p:Pk)(i:Int):Cz:=(p.c[i.toNat]?).getD ⟨[],0,false,[]⟩
def u7(p:Pk)(st:List Int):List (Nat×List (Int×Int)):=st.map fun i=>cPr (ux p i)
def ls0(p:Pk):List (List (Int×Int)):=p.v.map fun r=>z0 r.2.length
def lss(p:Pk)(st:List Int):List (List (Int×Int)):=lsF (u7 p st) (ls0 p)
abbrev k9(p:Pk)(st:List Int):Prop:=∀i∈st,0≤i∧i<(p.c.length:Int)
theorem zji{p:Pk}(ho:Ok p){i:Int}(h:0≤i∧i<(p.c.length:Int)):p.c[i.toNat]? =some (ux p i)∧0≤(ux p i).c∧(ux p i).c<p.v.length∧(ux p i).l.length=slots p:=by
 have hlt:i.toNat<p.c.length:=by omega
 have hg:p.c[i.toNat]? =some p.c[i.toNat]:=List.getElem?_eq_getElem hlt;have hc:ux p i=p.c[i.toNat]:=by unfold ux;rw[hg];rfl
 rw[hc];exact⟨hg,ho.ca _ (List.getElem_mem hlt)⟩
theorem yw1(x l:List (Int×Int)):part x l 0=x:=by simp[part]
theorem xbl(p:Pk)(ho:Ok p)(sb:Bool)(z:Nat)(st:List Int)(hs:st.length<1000000)(hv:k9 p st)(hz:st≠ []→z=1):∀t,t≤st.length→∀R,R.length=p.v.length→(∀x∈R,x.length=slots p)→
  zbh p R sb z st t=zbh p (lsF (u7 p (st.drop t)) R) sb z st st.length:=by
 refine xv st.length ?_ fun t ht ih=> ?_
 ·intro R _ _
  rw[List.drop_of_length_le (Nat.le_refl _)];rfl
 ·intro R hR hx
  obtain⟨h1,h2,h3,h4,h5⟩:=zr ht (by omega);have hz1:=hz (fun e=>by rw[e]at ht;cases ht);subst hz1;have hi:=hv _ (List.getElem_mem ht);obtain⟨hg,k1,k2,k3⟩:=zji ho hi;have v1:=ho.v1;have v8:=ho.v8;have s8:=ho.s8;have r0:0<R.length:=by omega
  have r8:R.length≤8:=by omega
  have hjR:(ux p st[t]).c.toNat<R.length:=by omega
  have hxj:=hx _ (List.getElem_mem hjR);have e:=xbk p R r0 r8 sb 1 st t (ux p st[t]) (ux p st[t]).c.toNat (by omega) hjR R[(ux p st[t]).c.toNat] (by rw[hxj,k3]) (by omega) 0 (by omega);rw[yw1,List.set_getElem_self]at e;rw[xdk p R r0 r8 sb st t ht hs _ (decide_eq_true hi) hg,e,xex p _ (by rw[List.length_set];exact r0) (by rw[List.length_set];exact r8) sb 1 st t (by omega) _];have hgd:R.getD (ux p st[t]).c.toNat []=R[(ux p st[t]).c.toNat]:=by rw[List.getD_eq_getElem?_getD,List.getElem?_eq_getElem hjR];rfl
  have hs2:=zqo (l:=(ux p st[t]).l) hx hjR k3;rw[hgd]at hs2;rw[ih _ (by rw[List.length_set];exact hR) hs2,h5];simp only[u7,List.map_cons,lsF,cPr,hgd]
theorem zil(p:Pk):(ls0 p).length=p.v.length:=by simp[ls0]
theorem ymj{p:Pk}(ho:Ok p):∀x∈ls0 p,x.length=slots p:=by
 intro x hx;obtain⟨r,hr,rfl⟩:=List.mem_map.1 hx;simp[z0,ho.row r hr]
theorem ymg(p:Pk)(st:List Int):(lss p st).length=p.v.length:=by unfold lss;rw[yzt,zil]
theorem xlz(p:Pk)(ho:Ok p)(sb:Bool)(z:Nat)(st:List Int)(hs:st.length<1000000)(hv:k9 p st)(hz:st≠ []→z=1):(zy T).call 123 [zk p,.sl sb z (st.map zx)] [] 0 []=some (.sl true 1 (((lss p st).map rvT).map ud),[],0,[]):=by
 have v1:=ho.v1;have v8:=ho.v8;have s8:=ho.s8;have hrow:∀r∈p.v,r.2.length<1000:=fun r hr=>by rw[ho.row r hr];omega
 have h:=xbl p ho sb z st hs hv hz 0 (by omega) (ls0 p) (zil p) (ymj ho);rw[List.drop_zero]at h;have hE:=xh5 p (lss p st) (by rw[ymg];exact v1) (by rw[ymg];exact v8) sb z st;rw[show lsF (u7 p st) (ls0 p)=lss p st from rfl,hE]at h;clear hE hv;generalize hL:V.sl true 1 (((lss p st).map rvT).map ud)=res at h⊢;clear hL;unfold zbh ls0 at h;clear ho;obtain⟨vb,v,n,cb,c⟩:=p;simp only at v1 v8 hrow h;rw[xhe];rcases zf4 v1 v8 with⟨a0,rfl⟩|⟨a0,a1,rfl⟩|⟨a0,a1,a2,rfl⟩|⟨a0,a1,a2,a3,rfl⟩|⟨a0,a1,a2,a3,a4,rfl⟩|⟨a0,a1,a2,a3,a4,a5,rfl⟩|⟨a0,a1,a2,a3,a4,a5,a6,rfl⟩|⟨a0,a1,a2,a3,a4,a5,a6,a7,rfl⟩
 all_goals simp only[um,List.length_cons,List.length_nil,Nat.reduceAdd,List.range_succ,List.range_zero,List.nil_append,List.cons_append,List.map_cons,List.map_nil,List.map_append,zk,j0,show((0:Nat):Int)=0 from rfl]at h
 ·simp -implicitDefEqProofs only[go_sem,simprocAttr,zk,xk2 vb a0 (hrow a0 (by simp)),h]
 ·simp -implicitDefEqProofs only[go_sem,simprocAttr,zk,xk1 vb a0 a1 (hrow a0 (by simp)) (hrow a1 (by simp)),h]
 ·simp -implicitDefEqProofs only[go_sem,simprocAttr,zk,xk0 vb a0 a1 a2 (hrow a0 (by simp)) (hrow a1 (by simp)) (hrow a2 (by simp)),h]
 ·simp -implicitDefEqProofs only[go_sem,simprocAttr,zk,xkz vb a0 a1 a2 a3 (hrow a0 (by simp)) (hrow a1 (by simp)) (hrow a2 (by simp)) (hrow a3 (by simp)),h]
 ·simp -implicitDefEqProofs only[go_sem,simprocAttr,zk,xky vb a0 a1 a2 a3 a4 (hrow a0 (by simp)) (hrow a1 (by simp)) (hrow a2 (by simp)) (hrow a3 (by simp)) (hrow a4 (by simp)),h]
 ·simp -implicitDefEqProofs only[go_sem,simprocAttr,zk,xkx vb a0 a1 a2 a3 a4 a5 (hrow a0 (by simp)) (hrow a1 (by simp)) (hrow a2 (by simp)) (hrow a3 (by simp)) (hrow a4 (by simp)) (hrow a5 (by simp)),h]
 ·simp -implicitDefEqProofs only[go_sem,simprocAttr,zk,xkw vb a0 a1 a2 a3 a4 a5 a6 (hrow a0 (by simp)) (hrow a1 (by simp)) (hrow a2 (by simp)) (hrow a3 (by simp)) (hrow a4 (by simp)) (hrow a5 (by simp)) (hrow a6 (by simp)),h]
 ·simp -implicitDefEqProofs only[go_sem,simprocAttr,zk,xkv vb a0 a1 a2 a3 a4 a5 a6 a7 (hrow a0 (by simp)) (hrow a1 (by simp)) (hrow a2 (by simp)) (hrow a3 (by simp)) (hrow a4 (by simp)) (hrow a5 (by simp)) (hrow a6 (by simp)) (hrow a7 (by simp)),h]
def gx(p:Pk)(st:List Int)(i k:Nat):Int×Int:=yh i k (u7 p st) (0,0)
def lsR(p:Pk)(st:List Int)(i:Nat):List (Int×Int):=(List.range (slots p)).map (gx p st i)
theorem ymi(p:Pk)(st:List Int)(i:Nat):(lsR p st i).length=slots p:=by simp[lsR]
theorem zql{p:Pk}(ho:Ok p):∃r0,p.v[0]? =some r0∧r0.2.length=slots p∧decide (0<(p.v.length:Int))=true:=by
 obtain⟨r0,h1,h2,h3⟩:=zhf ho;exact⟨r0,h1,by rw[h2,zbt],h3⟩
def uj(p:Pk)(st:List Int):List (List (Int×Int)):=(List.range p.v.length).map (lsR p st)
theorem yzr(p:Pk)(ho:Ok p)(st:List Int)(hv:k9 p st):lss p st=uj p st:=by
 unfold lss
 rw[yzs (slots p) (u7 p st) (ls0 p) (ymj ho) (fun c hc=>by
  obtain⟨i,hi,rfl⟩:=List.mem_map.1 hc;obtain⟨hg,k1,k2,k3⟩:=zji ho (hv i hi);exact⟨by rw[zil];simp only[cPr];omega,k3⟩),zil]
 unfold tab uj lsR;apply List.map_congr_left;intro i hi;rw[List.mem_range]at hi;apply List.map_congr_left;intro k hk;rw[List.mem_range]at hk;unfold gx;congr 1;have hr:=ho.row _ (List.getElem_mem hi);simp[ls0,z0,List.getD_eq_getElem?_getD,List.getElem?_eq_getElem hi,List.getElem?_replicate,hr,hk]
theorem za0(a b:Int):decide (a>b)=decide (b<a):=rfl
def wc(p:Pk)(st:List Int):List (Int×Int):=allP p.n 0 ((jt p).map (·.2)) (uj p st)
theorem zq0{p:Pk}(ho:Ok p):∀r∈jt p,r.2.length=slots p:=by
 intro r hr;obtain⟨x,hx,rfl⟩:=List.mem_map.1 hr;unfold rsT;have h:=zlp _ _ ((ze7 ho x hx).2);have:=(ze7 ho x hx).2;have:=zbt p;simp only;omega
theorem yzq{p:Pk}(st:List Int):∀l∈(uj p st).map rvT,l.2.length=slots p:=by
 intro l hl;obtain⟨x,hx,rfl⟩:=List.mem_map.1 hl;obtain⟨i,hi,rfl⟩:=List.mem_map.1 hx;exact ymi p st i
def zer(p:Pk)(rb lb:Bool)(R:List (Bool×List Int))(L:List (Bool×List (Int×Int)))(d:Nat)(S:xc)(i:Nat):Option Out:=
 (zy T).loop false [.code (.loop zgk),.inBlock 0]
  ⟨197,57,0,[(0,.yld d),(2,.pp 1 [.sl lb 1 (L.map ud)] 0 0),(3,.pp 3 [zk p] 0 0),(10,.sl rb 1 (R.map j0)),(11,.int .i64 R.length),(12,.int .i64 i)],[],0,S⟩
def y7(p:Pk)(rb lb:Bool)(R:List (Bool×List Int))(L:List (Bool×List (Int×Int)))(d:Nat)(S:xc)(i:Nat)(r:Bool×List Int)(k:Nat):Option Out:=
 (zy T).loop false [.code (.loop zj5),.inBlock 2,.inBlock 1,.code zmd,.inLoop zgk,.inBlock 0]
  ⟨197,57,0,[(0,.yld d),(2,.pp 1 [.sl lb 1 (L.map ud)] 0 0),(3,.pp 3 [zk p] 0 0),(5,.int .i64 i),(10,.sl rb 1 (R.map j0)),(11,.int .i64 R.length),(12,.int .i64 i),(17,.sl r.1 1 (r.2.map zx)),(18,.int .i64 r.2.length),(19,.int .i64 k)],[],0,S⟩
theorem xap(p:Pk)(rb lb:Bool)(R:List (Bool×List Int))(L:List (Bool×List (Int×Int)))(d:Nat)(i:Nat)(hi:i<R.length)(hR:R.length≤8)(hL:L.length=R.length)(r:Bool×List Int)(hr:R[i]? =some r)(l:Bool×List (Int×Int))(hl:L[i]? =some l)(hrl:r.2.length=l.2.length)(hr8:r.2.length≤8)
  (rest:List V)(hrest:∀S S' b,qz T d rest S=some (b,S')→zer p rb lb R L d S (i+1)=some (.ret (.tup []),[],0,S')):
  ∀k,k≤r.2.length→∀S S' b,qz T d ((rowP p.n i k (r.2.drop k) (l.2.drop k)).map q7++rest) S=some (b,S')→y7 p rb lb R L d S i r k=some (.ret (.tup []),[],0,S'):=by
 refine xv r.2.length ?_ fun k hk ih=> ?_
 ·intro S S' b h
  rw[List.drop_of_length_le (Nat.le_refl _),show rowP p.n i r.2.length [] (l.2.drop r.2.length)= []from by unfold rowP;rfl,List.map_nil,List.nil_append]at h;rw[←hrest _ _ _ h];obtain⟨q1,q2,q3,q4,q5⟩:=zr hi (by omega);have hE:=xz r.2.length
  conv=>lhs;unfold y7;rw[zj]
  unfold zer;simp -implicitDefEqProofs only[go_sem,simprocAttr,zk,hE,q4]
 ·intro S S' b h
  obtain⟨h1,h2,h3,h4,h5⟩:=zr hk (by omega);obtain⟨g1,g2,g3,g4,g5⟩:=zr (l:=l.2) (i:=k) (by omega) (by omega);obtain⟨q1,q2,q3,q4,q5⟩:=zr hi (by omega);obtain⟨m1,m2,m3,m4,m5⟩:=zr (l:=L) (i:=i) (by omega) (by omega);rw[h5,g5]at h;simp only[rowP,gu]at h;generalize r.2[k]=n at h3 h;generalize l.2[k]'(by omega)=x at g3 h;cases hA:decide (n<IntKind.i64.wrap (x.1- p.n))
  ·cases hB:decide (IntKind.i64.wrap (x.2+p.n)<n)
   ·simp only[hA,hB,Bool.or_false,cond_false]at h
    rw[←ih _ _ _ h]
    conv=>lhs;unfold y7;rw[zj]
    unfold y7;simp -implicitDefEqProofs only[go_sem,simprocAttr,zk,ud,h1,h2,h3,h4,g2,g3,m2,hl,hA,hB,za0]
   ·simp only[hA,hB,Bool.or_true,cond_true,List.map_cons,List.cons_append,qz,q7]at h
    cases hy:(zy T).yld d [.agg [.int .i64 i,.int .i64 k]] S with
    |none=>rw[hy]at h;cases h
    |some w=>
     obtain⟨c,S1⟩:=w;rw[hy]at h;cases c
     ·simp only[Option.some.injEq,Prod.mk.injEq]at h
      obtain⟨_,rfl⟩:=h;unfold y7;rw[zj];simp -implicitDefEqProofs only[go_sem,simprocAttr,zk,ud,h1,h2,h3,h4,g2,g3,m2,hl,hA,hB,za0,hy]
     ·rw[←ih _ _ _ h]
      conv=>lhs;unfold y7;rw[zj]
      unfold y7;simp -implicitDefEqProofs only[go_sem,simprocAttr,zk,ud,h1,h2,h3,h4,g2,g3,m2,hl,hA,hB,za0,hy]
  ·simp only[hA,Bool.true_or,cond_true,List.map_cons,List.cons_append,qz,q7]at h
   cases hy:(zy T).yld d [.agg [.int .i64 i,.int .i64 k]] S with
   |none=>rw[hy]at h;cases h
   |some w=>
    obtain⟨c,S1⟩:=w;rw[hy]at h;cases c
    ·simp only[Option.some.injEq,Prod.mk.injEq]at h
     obtain⟨_,rfl⟩:=h;unfold y7;rw[zj];simp -implicitDefEqProofs only[go_sem,simprocAttr,zk,ud,h1,h2,h3,h4,g2,g3,m2,hl,hA,za0,hy]
    ·rw[←ih _ _ _ h]
     conv=>lhs;unfold y7;rw[zj]
     unfold y7;simp -implicitDefEqProofs only[go_sem,simprocAttr,zk,ud,h1,h2,h3,h4,g2,g3,m2,hl,hA,za0,hy]
theorem xaq(p:Pk)(rb lb:Bool)(R:List (Bool×List Int))(L:List (Bool×List (Int×Int)))(d:Nat)(hR:R.length≤8)(hL:L.length=R.length)(s:Nat)(hs:s≤8)(hr:∀r∈R,r.2.length=s)(hl:∀l∈L,l.2.length=s):
  ∀i,i≤R.length→∀S S' b,qz T d ((allP p.n i ((R.map (·.2)).drop i) ((L.map (·.2)).drop i)).map q7) S=some (b,S')→zer p rb lb R L d S i=some (.ret (.tup []),[],0,S'):=by
 refine xv R.length ?_ fun i hi ih=> ?_
 ·intro S S' b h
  rw[List.drop_of_length_le (by simp),show allP p.n R.length [] ((L.map (·.2)).drop R.length)= []from by unfold allP;rfl,List.map_nil]at h;simp only[qz,Option.some.injEq,Prod.mk.injEq]at h;obtain⟨_,rfl⟩:=h;unfold zer;rw[zj];have h1:=xz R.length;simp -implicitDefEqProofs only[go_sem,simprocAttr,zk,h1]
 ·intro S S' b h
  obtain⟨h1,h2,h3,h4,h5⟩:=zr hi (by omega);have r1:=hr _ (List.getElem_mem hi);have l1:=hl _ (List.getElem_mem (show i<L.length by omega));have e1:(R.map (·.2)).drop i=R[i].2::(R.map (·.2)).drop (i+1):=by rw[List.drop_eq_getElem_cons (by simpa using hi)];simp
  have e2:(L.map (·.2)).drop i=(L[i]'(by omega)).2::(L.map (·.2)).drop (i+1):=by rw[List.drop_eq_getElem_cons (by simp;omega)];simp
  rw[e1,e2]at h;simp only[allP,List.map_append]at h;rw[←xap p rb lb R L d i hi hR hL R[i] h3 (L[i]'(by omega)) (List.getElem?_eq_getElem (by omega)) (by rw[r1,l1]) (by omega) _ (fun S S' b h=>ih S S' b h) 0 (by omega) S S' b (by rw[List.drop_zero,List.drop_zero];exact h)]
  conv=>lhs;unfold zer;rw[zj]
  unfold y7;rw[show((0:Nat):Int)=0 from rfl];simp -implicitDefEqProofs only[go_sem,simprocAttr,zk,j0,h1,h2,h3]
theorem xkt(p:Pk)(rb lb:Bool)(R:List (Bool×List Int))(L:List (Bool×List (Int×Int)))(d:Nat)(hR:R.length≤8)(hL:L.length=R.length)(s:Nat)(hs:s≤8)(hr:∀r∈R,r.2.length=s)(hl:∀l∈L,l.2.length=s)(S S':xc)(b:Bool)
  (h:qz T d ((allP p.n 0 (R.map (·.2)) (L.map (·.2))).map q7) S=some (b,S')):
  (zy T).call 197 [.yld d,.pp 1 [.sl rb 1 (R.map j0)] 0 0,.pp 1 [.sl lb 1 (L.map ud)] 0 0,.pp 3 [zk p] 0 0] [] 0 S=some (.tup [],[],0,S'):=by
 rw[xga];have e:=xaq p rb lb R L d hR hL s hs hr hl 0 (by omega) S S' b (by rw[List.drop_zero,List.drop_zero];exact h);unfold zer at e;simp only[show((0:Nat):Int)=0 from rfl,zk]at e;simp -implicitDefEqProofs only[go_sem,simprocAttr,zk,e]
theorem zga(p:Pk)(ho:Ok p)(sb:Bool)(z:Nat)(st:List Int)(hs:st.length<1000000)(hv:k9 p st)(hz:st≠ []→z=1):(zy T).call 125 [zk p,.sl sb z (st.map zx)] [] 0 []=
  some (.fn 197 [.pp 1 [.sl (!((j6 p).map j0).isEmpty) 1 ((j6 p).map j0)] 0 0,.pp 1 [.sl true 1 (((uj p st).map rvT).map ud)] 0 0,.pp 3 [zk p] 0 0],[],0,[]):=by
 rw[xhc];have e1:=xl7 p ho;have e2:=xlz p ho sb z st hs hv hz;rw[yzr p ho st hv]at e2;simp only[zk]at e1 e2;simp -implicitDefEqProofs only[go_sem,simprocAttr,zk,e1,e2]
end Go.Den.FaT
end
