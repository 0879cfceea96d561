import Derived.Test.YtjiidembdmfikaaGreatDoorFaS0
import Derived.Test.YtjiidembdmfikaaGreatDoorZP
import Derived.Test.YtjiidembdmfikaaGreatDoorZR
set_option linter.all false
set_option maxHeartbeats 8000000
set_option maxRecDepth 100000
noncomputable section
namespace Go.Den.FaT
open Go Go.Proofs Go.Den
theorem jz(b:Bool)(e:Int):(zu T).call 61 [.bool b,.int .i64 e] [] 0 []=some (.int .i64 (cond b e 0),[],0,[]):=by
 rw[xcb];cases b
 ·simp -implicitDefEqProofs only[go_sem,simprocAttr]
 ·simp -implicitDefEqProofs only[go_sem,simprocAttr]
theorem y8(b:Bool)(e:Int):(zu T).call 96 [.bool b,.int .i64 e] [] 0 []=some (.int .i64 (cond b e 0),[],0,[]):=by
 rw[xbn];cases b
 ·simp -implicitDefEqProofs only[go_sem,simprocAttr]
 ·simp -implicitDefEqProofs only[go_sem,simprocAttr]
theorem zio(n a b:Int):(zu T).call 80 [.int .i64 n,.int .i64 a,.int .i64 b] [] 0 []=some (.int .i64 (wb n a b),[],0,[]):=by
 rw[xbw];cases h:decide (n<a)
 ·simp -implicitDefEqProofs only[go_sem,simprocAttr,h,jz,wb]
 ·simp -implicitDefEqProofs only[go_sem,simprocAttr,h,jz,wb]
theorem uo(n a b:Int):(zu T).call 38 [.int .i64 n,.int .i64 a,.int .i64 b] [] 0 []=some (.int .i64 (wb n a b),[],0,[]):=by
 rw[xcj];cases h:decide (n<a)
 ·simp -implicitDefEqProofs only[go_sem,simprocAttr,h,y8,wb]
 ·simp -implicitDefEqProofs only[go_sem,simprocAttr,h,y8,wb]
theorem yw1(b:Bool)(l:List Int)(hb:l.length<4611686018427387904):∀i,i≤l.length→(zu T).loop false [.code (.loop zi0),.inBlock 0,.code (.seq zk8 .ret)] ⟨60,15,0,[(5,.sl b 1 (l.map fun n=> .int .i64 n)),(6,.int .i64 l.length),(7,.int .i64 i)],[],0,[]⟩=some (.ret (.int .i64 (xj (l.drop i))),[],0,[]):=by
 refine xq l.length ?_ fun i hi ih=> ?_
 ·rw[zx]
  have h1:=z8 l.length;simp -implicitDefEqProofs only[go_sem,simprocAttr,h1];simp[xj]
 ·obtain⟨h1,h2,h3,h4,h5⟩:=zl hi hb
  rw[zx,h5];cases h6:(l[i] !=0)
  ·have h7:l[i]=0:=by simpa using h6
   simp -implicitDefEqProofs only[go_sem,simprocAttr,h1,h2,h3,h4,h6,ih];simp[xj,h7]
  ·have h7:l[i]≠0:=by simpa using h6
   simp -implicitDefEqProofs only[go_sem,simprocAttr,h1,h2,h3,h4,h6];simp[xj,h7]
theorem za1(b:Bool)(l:List Int)(hb:l.length<4611686018427387904):(zu T).call 60 [.sl b 1 (l.map fun n=> .int .i64 n)] [] 0 []=some (.int .i64 (xj l),[],0,[]):=by
 rw[xcc];have h:=yw1 b l hb 0 (by omega);rw[show((0:Nat):Int)=0 from rfl,List.drop_zero]at h;simp -implicitDefEqProofs only[go_sem,simprocAttr,h]
theorem yw3(b:Bool)(l:List Int)(hb:l.length<4611686018427387904):∀i,i≤l.length→(zu T).loop false [.code (.loop ziu),.inBlock 0,.code (.seq zk2 .ret)] ⟨89,19,0,[(0,.sl b 1 (l.map fun n=> .int .i64 n)),(3,.int .i64 i)],[],0,[]⟩=some (.ret (.int .i64 (xj (l.drop i))),[],0,[]):=by
 refine xq l.length ?_ fun i hi ih=> ?_
 ·rw[zx]
  have h1:=z8 l.length;simp -implicitDefEqProofs only[go_sem,simprocAttr,h1];simp[xj]
 ·obtain⟨h1,h2,h3,h4,h5⟩:=zl hi hb
  rw[zx,h5];cases h6:(l[i] !=0)
  ·have h7:l[i]=0:=by simpa using h6
   simp -implicitDefEqProofs only[go_sem,simprocAttr,h1,h2,h3,h4,h6,ih];simp[xj,h7]
  ·have h7:l[i]≠0:=by simpa using h6
   simp -implicitDefEqProofs only[go_sem,simprocAttr,h1,h2,h3,h4,h6];simp[xj,h7]
theorem zoa(b:Bool)(l:List Int)(hb:l.length<4611686018427387904):(zu T).call 89 [.sl b 1 (l.map fun n=> .int .i64 n)] [] 0 []=some (.int .i64 (xj l),[],0,[]):=by
 rw[xbp];have h:=yw3 b l hb 0 (by omega);rw[show((0:Nat):Int)=0 from rfl,List.drop_zero]at h;simp -implicitDefEqProofs only[go_sem,simprocAttr,h]
theorem zil(b:Bool)(x y:Int):(zu T).call 60 [.sl b 1 [.int .i64 x,.int .i64 y]] [] 0 []=some (.int .i64 (xj [x,y]),[],0,[]):=za1 b [x,y] (by simp)
theorem zd1(b:Bool)(x y z:Int):(zu T).call 60 [.sl b 1 [.int .i64 x,.int .i64 y,.int .i64 z]] [] 0 []=some (.int .i64 (xj [x,y,z]),[],0,[]):=za1 b [x,y,z] (by simp)
theorem xgk(b:Bool)(x y z u:Int):(zu T).call 60 [.sl b 1 [.int .i64 x,.int .i64 y,.int .i64 z,.int .i64 u]] [] 0 []=some (.int .i64 (xj [x,y,z,u]),[],0,[]):=za1 b [x,y,z,u] (by simp)
theorem jr(b:Bool)(x y:Int):(zu T).call 89 [.sl b 1 [.int .i64 x,.int .i64 y]] [] 0 []=some (.int .i64 (xj [x,y]),[],0,[]):=zoa b [x,y] (by simp)
theorem zfp(b:Bool)(x y z:Int):(zu T).call 89 [.sl b 1 [.int .i64 x,.int .i64 y,.int .i64 z]] [] 0 []=some (.int .i64 (xj [x,y,z]),[],0,[]):=zoa b [x,y,z] (by simp)
theorem yn2(b:Bool)(x y z u v w:Int):(zu T).call 89 [.sl b 1 [.int .i64 x,.int .i64 y,.int .i64 z,.int .i64 u,.int .i64 v,.int .i64 w]] [] 0 []=some (.int .i64 (xj [x,y,z,u,v,w]),[],0,[]):=zoa b [x,y,z,u,v,w] (by simp)
theorem zn9(n k:Int):(zu T).call 111 [.int .i64 n,.int .i64 k] [] 0 []=some (.int .i64 (xj [cond (n==0) 12 0,cond (decide (k<n)) 5 0]),[],0,[]):=by
 rw[xei];simp -implicitDefEqProofs only[go_sem,simprocAttr,jz,zil]
def intV(n:Int):V:= .int .i64 n
attribute [go_sem] intV
theorem xt{l:List Int}:xj l=0↔∀x∈l,x=0:=by
 induction l with
 |nil=>simp[xj]
 |cons x l ih=>
  simp only[xj];by_cases h:x=0
  ·simp[h,ih]
  ·simp[h]
def yf(n:Int):Int:=wb n 0 1000000
theorem znx(n:Int):wb n 0 1000000=yf n:=rfl
theorem ziq(n:Int):(zu T).call 63 [.int .i64 n] [] 0 []=some (.int .i64 (yf n),[],0,[]):=by
 rw[xb9];simp -implicitDefEqProofs only[go_sem,simprocAttr,zio,znx]
theorem zir(n:Int):(zu T).call 97 [.int .i64 n] [] 0 []=some (.int .i64 (yf n),[],0,[]):=by
 rw[xbm];simp -implicitDefEqProofs only[go_sem,simprocAttr,uo,znx]
def j5(x:Int×Int):V:= .agg [.int .i64 x.1,.int .i64 x.2]
attribute [go_sem] j5
def ye(x:Int×Int):Int:=xj [yf x.1,yf x.2,cond (decide (x.2<x.1)) 11 0]
theorem ynu(x:Int×Int):xj [yf x.1,yf x.2,cond (decide (x.2<x.1)) 11 0]=ye x:=rfl
theorem yn7(x:Int×Int):(zu T).call 65 [.agg [.int .i64 x.1,.int .i64 x.2]] [] 0 []=some (.int .i64 (ye x),[],0,[]):=by
 rw[xb7];simp -implicitDefEqProofs only[go_sem,simprocAttr,ziq,jz,zd1,ynu]
theorem yn4(x:Int×Int):(zu T).call 200 [.agg [.int .i64 x.1,.int .i64 x.2],.int .i64 0,.int .i64 1000000] [] 0 []=some (.int .i64 (ye x),[],0,[]):=by
 rw[xc7];simp -implicitDefEqProofs only[go_sem,simprocAttr,uo,znx,y8,zfp,ynu]
theorem ywq(b:Bool)(l:List (Int×Int))(hb:l.length<1000000):∀i,i≤l.length→∀o:Option (List (Int)),ki o=i→
  (zu T).loop false [.code (.loop ziy),.inBlock 0,.code (.seq zk6 .ret)] ⟨64,22,0,[(1,.fn 65 []),(5,uj o 0),(8,.sl b 2 (l.map j5)),(9,.int .i64 l.length),(10,.int .i64 i)],uv intV o 39,0,[]⟩=
   some (.ret (yp intV 0 1 (j6 o ((l.drop i).map (fun x=>ye x)))),[],0,[]):=by
 refine xq l.length ?_ fun i hi ih o ho=> ?_
 ·intro o ho
  rw[zx];have h1:=z8 l.length;cases o with
  |none=>
   simp -implicitDefEqProofs only[go_sem,simprocAttr,h1];simp[j6,yp]
  |some a=>
   simp -implicitDefEqProofs only[go_sem,simprocAttr,h1];simp[j6,yp]
 ·obtain⟨h1,h2,h3,h4,h5⟩:=zl hi (by omega)
  rw[zx,h5];have ih':=ih (j6 o [((fun x=>ye x) l[i])]) (by rw[yw,ho];rfl);rw[yy]at ih';dsimp only at ih';cases o with
  |none=>
   have h8:=xw (n:=0) (by omega);simp only[v9,qx,qq,List.map_cons,List.map_nil,intV]at ih';simp -implicitDefEqProofs only[go_sem,simprocAttr,h1,h2,h3,h4,ih',h8.2,yn7]
  |some a=>
   have h9:a.length=i:=ho;have h8:=(xw (n:=a.length) (by omega)).1;simp only[v7,qx,qq,List.map_append,List.map_cons,List.map_nil,intV]at ih';simp -implicitDefEqProofs only[go_sem,simprocAttr,h1,h2,h3,h4,ih',h8,yn7]
theorem xhp(b:Bool)(l:List (Int×Int))(hb:l.length<1000000):(zu T).call 64 [.sl b 2 (l.map j5),.fn 65 []] [] 0 []=some (yr 1 (((l).map (fun x=>ye x)).map intV),[],0,[]):=by
 rw[xb8];have h:=ywq b l hb 0 (by omega) none rfl;rw[show((0:Nat):Int)=0 from rfl,List.drop_zero,yj]at h;simp only[ji,j0]at h;simp -implicitDefEqProofs only[go_sem,simprocAttr,h]
theorem yw0(b:Bool)(l:List (Int))(hb:l.length<1000000):∀i,i≤l.length→∀o:Option (List (Int)),ki o=i→
  (zu T).loop false [.code (.loop ziz),.inBlock 0,.code (.seq zk7 .ret)] ⟨62,22,0,[(1,.fn 63 []),(5,uj o 0),(8,.sl b 1 (l.map intV)),(9,.int .i64 l.length),(10,.int .i64 i)],uv intV o 39,0,[]⟩=
   some (.ret (yp intV 0 1 (j6 o ((l.drop i).map (fun x=>yf x)))),[],0,[]):=by
 refine xq l.length ?_ fun i hi ih o ho=> ?_
 ·intro o ho
  rw[zx];have h1:=z8 l.length;cases o with
  |none=>
   simp -implicitDefEqProofs only[go_sem,simprocAttr,h1];simp[j6,yp]
  |some a=>
   simp -implicitDefEqProofs only[go_sem,simprocAttr,h1];simp[j6,yp]
 ·obtain⟨h1,h2,h3,h4,h5⟩:=zl hi (by omega)
  rw[zx,h5];have ih':=ih (j6 o [((fun x=>yf x) l[i])]) (by rw[yw,ho];rfl);rw[yy]at ih';dsimp only at ih';cases o with
  |none=>
   have h8:=xw (n:=0) (by omega);simp only[v9,qx,qq,List.map_cons,List.map_nil,intV]at ih';simp -implicitDefEqProofs only[go_sem,simprocAttr,h1,h2,h3,h4,ih',h8.2,ziq]
  |some a=>
   have h9:a.length=i:=ho;have h8:=(xw (n:=a.length) (by omega)).1;simp only[v7,qx,qq,List.map_append,List.map_cons,List.map_nil,intV]at ih';simp -implicitDefEqProofs only[go_sem,simprocAttr,h1,h2,h3,h4,ih',h8,ziq]
theorem xh0(b:Bool)(l:List (Int))(hb:l.length<1000000):(zu T).call 62 [.sl b 1 (l.map intV),.fn 63 []] [] 0 []=some (yr 1 (((l).map (fun x=>yf x)).map intV),[],0,[]):=by
 rw[xca];have h:=yw0 b l hb 0 (by omega) none rfl;rw[show((0:Nat):Int)=0 from rfl,List.drop_zero,yj]at h;simp only[ji,j0]at h;simp -implicitDefEqProofs only[go_sem,simprocAttr,h]
def xa(r:Int):Bool:=(decide (97≤r)&&decide (r≤122))||(decide (65≤r)&&decide (r≤90))
def xi(first:Bool)(r:Int):Bool:= !xa r&&(first||(r !=95&&(decide (r<48)||decide (57<r))))
def zbg:Bool→List UInt8→Bool
 |_,[]=>true
 |f,c::l=> !xi f c.toNat&&zbg false l
def zae(s:List UInt8):Bool:=zbg true s&&(!s.isEmpty&&decide (s.length≤24))
theorem xey{s:List UInt8}{p:Nat}(h:p<s.length)(hb:s[p].toNat<128):Utf8.decode ⟨s.toArray⟩ p=(s[p].toNat,1):=by
 have e:ByteArray.get! ⟨s.toArray⟩ (p+0)=s[p]:=by simp[ByteArray.get!,h]
 unfold Utf8.decode;simp only[e];rw[if_pos (by omega)]
theorem xez{s:List UInt8}{p:Nat}(h:p<s.length)(hb:¬s[p].toNat<128):∃r k,Utf8.decode ⟨s.toArray⟩ p=(r,k)∧128≤r:=by
 have e:ByteArray.get! ⟨s.toArray⟩ (p+0)=s[p]:=by simp[ByteArray.get!,h]
 unfold Utf8.decode;simp only[e];rw[if_neg (by omega)];have hR:128≤Utf8.runeError:=by decide
 repeat' split
 all_goals refine⟨_,_,rfl,?_⟩
 all_goals first|exact hR|(rename_i hc;simp at hc;omega)|(simp_all;omega)
theorem ynt(r:Int)(h:97≤r∧r≤122):decide (97≤r)=true∧decide (r≤122)=true:=by
 refine⟨?_,?_⟩<;>simp<;>omega
theorem ynr(r:Int)(h:65≤r∧r≤90):decide (97≤r)=false∧decide (65≤r)=true∧decide (r≤90)=true:=by
 refine⟨?_,?_,?_⟩<;>simp<;>omega
theorem zih(r:Int)(h:123≤r):decide (97≤r)=true∧decide (r≤122)=false∧decide (65≤r)=true∧decide (r≤90)=false∧(r !=95)=true∧decide (r<48)=false∧decide (57<r)=true:=by
 refine⟨?_,?_,?_,?_,?_,?_,?_⟩<;>simp<;>omega
theorem ynq(r:Int)(h:91≤r∧r≤96∧r≠95):decide (97≤r)=false∧decide (65≤r)=true∧decide (r≤90)=false∧(r !=95)=true∧decide (r<48)=false∧decide (57<r)=true:=by
 refine⟨?_,?_,?_,?_,?_,?_⟩<;>simp<;>omega
theorem ynp(r:Int)(h:r=95):decide (97≤r)=false∧decide (65≤r)=true∧decide (r≤90)=false∧(r !=95)=false:=by
 refine⟨?_,?_,?_,?_⟩<;>simp<;>omega
theorem yno(r:Int)(h:58≤r∧r≤64):decide (97≤r)=false∧decide (65≤r)=false∧(r !=95)=true∧decide (r<48)=false∧decide (57<r)=true:=by
 refine⟨?_,?_,?_,?_,?_⟩<;>simp<;>omega
theorem ynn(r:Int)(h:48≤r∧r≤57):decide (97≤r)=false∧decide (65≤r)=false∧(r !=95)=true∧decide (r<48)=false∧decide (57<r)=false:=by
 refine⟨?_,?_,?_,?_,?_⟩<;>simp<;>omega
theorem ynm(r:Int)(h:r<48):decide (97≤r)=false∧decide (65≤r)=false∧(r !=95)=true∧decide (r<48)=true:=by
 refine⟨?_,?_,?_,?_⟩<;>simp<;>omega
theorem yns(r:Int):(97≤r∧r≤122)∨(65≤r∧r≤90)∨(123≤r)∨(91≤r∧r≤96∧r≠95)∨(r=95)∨(58≤r∧r≤64)∨(48≤r∧r≤57)∨(r<48):=by omega
def zga(s:List UInt8)(p:Nat):Option Out:=
 (zu T).loop false [.code (.loop zjk),.inBlock 0,.code (.seq zlr .ret)] ⟨176,51,0,[(0,.str s),(7,.it 0)],[.siter s p],0,[]⟩
theorem ywi(s:List UInt8)(hb:s.length<1000000):∀p,p≤s.length→zga s p=some (.ret (.bool (zbg ((p:Int)==0) (s.drop p)&&(!s.isEmpty&&decide (s.length≤24)))),[],0,[]):=by
 refine xq s.length ?_ fun p hp ih=> ?_
 ·unfold zga
  rw[zx];have h1:decide (s.length<s.length)=false:=by simp
  cases h2:(s==([]:List UInt8))
  ·have h3:s.isEmpty=false:=by cases s with|nil=>cases h2|cons a b=>rfl
   have h4:decide ((s.length:Int)≤24)=decide (s.length≤24):=by simp;omega
   simp -implicitDefEqProofs only[go_sem,simprocAttr,h1,h2,h4,Bool.not_false];simp[zbg,h3]
  ·have h3:s= []:=by simpa using h2
   subst h3;simp -implicitDefEqProofs only[go_sem,simprocAttr]
 ·have h1:decide (p<s.length)=true:=decide_eq_true hp
  have h5:s.drop p=s[p]::s.drop (p+1):=List.drop_eq_getElem_cons hp;rw[h5];have h6:(((p+1:Nat):Int)==0)=false:=by simp;omega
  rw[h6]at ih;simp only[zbg];by_cases hlo:s[p].toNat<128
  ·have hd:=xey hp hlo
   unfold zga at ih⊢;rw[zx];generalize hr:((s[p].toNat:Nat):Int)=r at*;rcases yns r with hc|hc|hc|hc|hc|hc|hc|hc
   ·obtain⟨qA,qB⟩:=ynt r hc
    simp -implicitDefEqProofs only[go_sem,simprocAttr,h1,hd,hr,qA,qB,ih];simp[xi,xa,qA,qB]
   ·obtain⟨qA,qC,qD⟩:=ynr r hc
    simp -implicitDefEqProofs only[go_sem,simprocAttr,h1,hd,hr,qA,qC,qD,ih];simp[xi,xa,qA,qC,qD]
   ·obtain⟨qA,qB,qC,qD,qE,qF,qG⟩:=zih r hc
    cases hz:((p:Int)==0)
    ·simp -implicitDefEqProofs only[go_sem,simprocAttr,h1,hd,hr,qA,qB,qC,qD,qE,qF,qG,ih,hz]
     try simp[xi,xa,qA,qB,qC,qD,qE,qF,qG,hz]
    ·simp -implicitDefEqProofs only[go_sem,simprocAttr,h1,hd,hr,qA,qB,qC,qD,qE,qF,qG,ih,hz]
     try simp[xi,xa,qA,qB,qC,qD,qE,qF,qG,hz]
   ·obtain⟨qA,qC,qD,qE,qF,qG⟩:=ynq r hc
    cases hz:((p:Int)==0)
    ·simp -implicitDefEqProofs only[go_sem,simprocAttr,h1,hd,hr,qA,qC,qD,qE,qF,qG,ih,hz]
     try simp[xi,xa,qA,qC,qD,qE,qF,qG,hz]
    ·simp -implicitDefEqProofs only[go_sem,simprocAttr,h1,hd,hr,qA,qC,qD,qE,qF,qG,ih,hz]
     try simp[xi,xa,qA,qC,qD,qE,qF,qG,hz]
   ·obtain⟨qA,qC,qD,qE⟩:=ynp r hc
    cases hz:((p:Int)==0)
    ·simp -implicitDefEqProofs only[go_sem,simprocAttr,h1,hd,hr,qA,qC,qD,qE,ih,hz]
     try simp[xi,xa,qA,qC,qD,qE,hz]
    ·simp -implicitDefEqProofs only[go_sem,simprocAttr,h1,hd,hr,qA,qC,qD,qE,ih,hz]
     try simp[xi,xa,qA,qC,qD,qE,hz]
   ·obtain⟨qA,qC,qE,qF,qG⟩:=yno r hc
    cases hz:((p:Int)==0)
    ·simp -implicitDefEqProofs only[go_sem,simprocAttr,h1,hd,hr,qA,qC,qE,qF,qG,ih,hz]
     try simp[xi,xa,qA,qC,qE,qF,qG,hz]
    ·simp -implicitDefEqProofs only[go_sem,simprocAttr,h1,hd,hr,qA,qC,qE,qF,qG,ih,hz]
     try simp[xi,xa,qA,qC,qE,qF,qG,hz]
   ·obtain⟨qA,qC,qE,qF,qG⟩:=ynn r hc
    cases hz:((p:Int)==0)
    ·simp -implicitDefEqProofs only[go_sem,simprocAttr,h1,hd,hr,qA,qC,qE,qF,qG,ih,hz]
     try simp[xi,xa,qA,qC,qE,qF,qG,hz]
    ·simp -implicitDefEqProofs only[go_sem,simprocAttr,h1,hd,hr,qA,qC,qE,qF,qG,ih,hz]
     try simp[xi,xa,qA,qC,qE,qF,qG,hz]
   ·obtain⟨qA,qC,qE,qF⟩:=ynm r hc
    cases hz:((p:Int)==0)
    ·simp -implicitDefEqProofs only[go_sem,simprocAttr,h1,hd,hr,qA,qC,qE,qF,ih,hz]
     try simp[xi,xa,qA,qC,qE,qF,hz]
    ·simp -implicitDefEqProofs only[go_sem,simprocAttr,h1,hd,hr,qA,qC,qE,qF,ih,hz]
     try simp[xi,xa,qA,qC,qE,qF,hz]
  ·obtain⟨r0,k0,hd,hhi⟩:=xez hp hlo
   unfold zga;rw[zx];obtain⟨qA,qB,qC,qD,qE,qF,qG⟩:=zih (r0:Int) (by omega);obtain⟨wA,wB,wC,wD,wE,wF,wG⟩:=zih (s[p].toNat:Int) (by omega);cases hz:((p:Int)==0)
   ·simp -implicitDefEqProofs only[go_sem,simprocAttr,h1,hd,qA,qB,qC,qD,qE,qF,qG,hz]
    simp[xi,xa,wA,wB,wC,wD,wE,wF,wG,hz]
   ·simp -implicitDefEqProofs only[go_sem,simprocAttr,h1,hd,qA,qB,qC,qD,qE,qF,qG,hz]
    simp[xi,xa,wA,wB,wC,wD,wE,wF,wG,hz]
theorem xg6(s:List UInt8)(hb:s.length<1000000):(zu T).call 176 [.str s] [] 0 []=some (.bool (zae s),[],0,[]):=by
 rw[xdn];have h:=ywi s hb 0 (by omega);rw[List.drop_zero]at h;unfold zga at h;simp -implicitDefEqProofs only[go_sem,simprocAttr,h];rfl
theorem xfi(r:Int)(h:97≤r∧r≤122):decide (65≤r)=true∧decide (r≤90)=false∧decide (97≤r)=true∧decide (r≤122)=true∧decide (48≤r)=true∧decide (r≤57)=false∧(r==95)=false:=by
 refine⟨?_,?_,?_,?_,?_,?_,?_⟩<;>simp<;>omega
theorem xfh(r:Int)(h:65≤r∧r≤90):decide (65≤r)=true∧decide (r≤90)=true∧decide (97≤r)=false∧decide (48≤r)=true∧decide (r≤57)=false∧(r==95)=false:=by
 refine⟨?_,?_,?_,?_,?_,?_⟩<;>simp<;>omega
theorem xfg(r:Int)(h:123≤r):decide (97≤r)=true∧decide (r≤122)=false∧decide (65≤r)=true∧decide (r≤90)=false∧decide (48≤r)=true∧decide (r≤57)=false∧(r==95)=false:=by
 refine⟨?_,?_,?_,?_,?_,?_,?_⟩<;>simp<;>omega
theorem xff(r:Int)(h:91≤r∧r≤96∧r≠95):decide (97≤r)=false∧decide (65≤r)=true∧decide (r≤90)=false∧decide (48≤r)=true∧decide (r≤57)=false∧(r==95)=false:=by
 refine⟨?_,?_,?_,?_,?_,?_⟩<;>simp<;>omega
theorem xfe(r:Int)(h:r=95):decide (97≤r)=false∧decide (65≤r)=true∧decide (r≤90)=false∧decide (48≤r)=true∧decide (r≤57)=false∧(r==95)=true:=by
 refine⟨?_,?_,?_,?_,?_,?_⟩<;>simp<;>omega
theorem xfd(r:Int)(h:58≤r∧r≤64):decide (97≤r)=false∧decide (65≤r)=false∧decide (48≤r)=true∧decide (r≤57)=false∧(r==95)=false:=by
 refine⟨?_,?_,?_,?_,?_⟩<;>simp<;>omega
theorem xfc(r:Int)(h:48≤r∧r≤57):decide (97≤r)=false∧decide (65≤r)=false∧decide (48≤r)=true∧decide (r≤57)=true∧(r==95)=false:=by
 refine⟨?_,?_,?_,?_,?_⟩<;>simp<;>omega
theorem xfb(r:Int)(h:r<48):decide (97≤r)=false∧decide (65≤r)=false∧decide (48≤r)=false∧(r==95)=false:=by
 refine⟨?_,?_,?_,?_⟩<;>simp<;>omega
theorem yv6(s:List UInt8)(hb:s.length<1000000):∀i,i≤s.length→(zu T).loop false [.code (.loop zjc),.inBlock 0,.code (.seq zlk .ret)] ⟨199,68,0,[(0,.str s),(3,.int .i64 i)],[],0,[]⟩=some (.ret (.bool (zbg ((i:Int)==0) (s.drop i))),[],0,[]):=by
 refine xq s.length ?_ fun p hp ih=> ?_
 ·rw[zx]
  have h1:=z8 s.length;simp -implicitDefEqProofs only[go_sem,simprocAttr,h1];simp[zbg]
 ·obtain⟨h1,h2,h3,h4,h5⟩:=zl hp (by omega)
  rw[h5];have h6:(((p+1:Nat):Int)==0)=false:=by simp;omega
  rw[h6]at ih;have h7:decide (0≤(p:Int))=true:=decide_eq_true (by omega);simp only[zbg];rw[zx];generalize hr:((s[p].toNat:Nat):Int)=r at*;rcases yns r with hc|hc|hc|hc|hc|hc|hc|hc
  ·obtain⟨qC,qD,qA,qB,qF,qG,qE⟩:=xfi r hc
   obtain⟨wA,wB⟩:=ynt r hc;simp -implicitDefEqProofs only[go_sem,simprocAttr,h1,h3,h4,h7,hr,qC,qD,qA,qB,qF,qG,qE,ih];simp[xi,xa,wA,wB]
  ·obtain⟨qC,qD,qA,qF,qG,qE⟩:=xfh r hc
   obtain⟨wA,wC,wD⟩:=ynr r hc;simp -implicitDefEqProofs only[go_sem,simprocAttr,h1,h3,h4,h7,hr,qC,qD,qA,qF,qG,qE,ih];simp[xi,xa,wA,wC,wD]
  ·obtain⟨qA,qB,qC,qD,qF,qG,qE⟩:=xfg r hc
   obtain⟨wA,wB,wC,wD,wE,wF,wG⟩:=zih r hc;cases hz:((p:Int)==0)
   ·simp -implicitDefEqProofs only[go_sem,simprocAttr,h1,h3,h4,h7,hr,qA,qB,qC,qD,qF,qG,qE,ih,hz]
    try simp[xi,xa,wA,wB,wC,wD,wE,wF,wG,hz]
   ·simp -implicitDefEqProofs only[go_sem,simprocAttr,h1,h3,h4,h7,hr,qA,qB,qC,qD,qF,qG,qE,ih,hz]
    try simp[xi,xa,wA,wB,wC,wD,wE,wF,wG,hz]
  ·obtain⟨qA,qC,qD,qF,qG,qE⟩:=xff r hc
   obtain⟨wA,wC,wD,wE,wF,wG⟩:=ynq r hc;cases hz:((p:Int)==0)
   ·simp -implicitDefEqProofs only[go_sem,simprocAttr,h1,h3,h4,h7,hr,qA,qC,qD,qF,qG,qE,ih,hz]
    try simp[xi,xa,wA,wC,wD,wE,wF,wG,hz]
   ·simp -implicitDefEqProofs only[go_sem,simprocAttr,h1,h3,h4,h7,hr,qA,qC,qD,qF,qG,qE,ih,hz]
    try simp[xi,xa,wA,wC,wD,wE,wF,wG,hz]
  ·obtain⟨qA,qC,qD,qF,qG,qE⟩:=xfe r hc
   obtain⟨wA,wC,wD,wE⟩:=ynp r hc;cases hz:((p:Int)==0)
   ·simp -implicitDefEqProofs only[go_sem,simprocAttr,h1,h3,h4,h7,hr,qA,qC,qD,qF,qG,qE,ih,hz]
    try simp[xi,xa,wA,wC,wD,wE,hz]
   ·simp -implicitDefEqProofs only[go_sem,simprocAttr,h1,h3,h4,h7,hr,qA,qC,qD,qF,qG,qE,ih,hz]
    try simp[xi,xa,wA,wC,wD,wE,hz]
  ·obtain⟨qA,qC,qF,qG,qE⟩:=xfd r hc
   obtain⟨wA,wC,wE,wF,wG⟩:=yno r hc;cases hz:((p:Int)==0)
   ·simp -implicitDefEqProofs only[go_sem,simprocAttr,h1,h3,h4,h7,hr,qA,qC,qF,qG,qE,ih,hz]
    try simp[xi,xa,wA,wC,wE,wF,wG,hz]
   ·simp -implicitDefEqProofs only[go_sem,simprocAttr,h1,h3,h4,h7,hr,qA,qC,qF,qG,qE,ih,hz]
    try simp[xi,xa,wA,wC,wE,wF,wG,hz]
  ·obtain⟨qA,qC,qF,qG,qE⟩:=xfc r hc
   obtain⟨wA,wC,wE,wF,wG⟩:=ynn r hc;cases hz:((p:Int)==0)
   ·simp -implicitDefEqProofs only[go_sem,simprocAttr,h1,h3,h4,h7,hr,qA,qC,qF,qG,qE,ih,hz]
    try simp[xi,xa,wA,wC,wE,wF,wG,hz]
   ·simp -implicitDefEqProofs only[go_sem,simprocAttr,h1,h3,h4,h7,hr,qA,qC,qF,qG,qE,ih,hz]
    try simp[xi,xa,wA,wC,wE,wF,wG,hz]
  ·obtain⟨qA,qC,qF,qE⟩:=xfb r hc
   obtain⟨wA,wC,wE,wF⟩:=ynm r hc;cases hz:((p:Int)==0)
   ·simp -implicitDefEqProofs only[go_sem,simprocAttr,h1,h3,h4,h7,hr,qA,qC,qF,qE,ih,hz]
    try simp[xi,xa,wA,wC,wE,wF,hz]
   ·simp -implicitDefEqProofs only[go_sem,simprocAttr,h1,h3,h4,h7,hr,qA,qC,qF,qE,ih,hz]
    try simp[xi,xa,wA,wC,wE,wF,hz]
theorem xgq(s:List UInt8)(hb:s.length<1000000):(zu T).call 199 [.str s] [] 0 []=some (.bool (zae s),[],0,[]):=by
 rw[xc9];have h:=yv6 s hb 0 (by omega);rw[show((0:Nat):Int)=0 from rfl,List.drop_zero]at h;unfold zae;cases h1:((s.length:Int)==0)
 ·have h3:s.isEmpty=false:=by cases s with|nil=>cases h1|cons a b=>rfl
  cases h2:decide (24<(s.length:Int))
  ·have h4:s.length≤24:=by simp at h2;omega
   simp -implicitDefEqProofs only[go_sem,simprocAttr,h1,h2,h];simp[h3,h4]
  ·have h4:¬s.length≤24:=by simp at h2;omega
   simp -implicitDefEqProofs only[go_sem,simprocAttr,h1,h2];simp[h3,h4]
 ·have h3:s= []:=by simp at h1;exact h1
  subst h3;simp -implicitDefEqProofs only[go_sem,simprocAttr]
  try rfl
theorem xhg(s:List UInt8)(hb:s.length<1000000):(zu T).call 158 [.str s] [] 0 []=some (.int .i64 (cond (!zae s) 8 0),[],0,[]):=by
 rw[xdr];simp -implicitDefEqProofs only[go_sem,simprocAttr,xgq s hb,y8]
structure Cz where
 n:List UInt8
 c:Int
 b:Bool
 l:List (Int×Int)
def czV(c:Cz):V:= .agg [.str c.n,.int .i64 c.c,.sl c.b 2 (c.l.map j5)]
attribute [go_sem] czV
def yo(n k:Int):Int:=xj [cond (n==0) 12 0,cond (decide (k<n)) 5 0]
theorem zcx(n k:Int):xj [cond (n==0) 12 0,cond (decide (k<n)) 5 0]=yo n k:=rfl
def ckC(c:Cz):Int:=xj [wb c.c 0 7,yo c.l.length 8,xj (c.l.map fun x=>ye x)]
theorem xfy(c:Cz):xj [wb c.c 0 7,yo c.l.length 8,xj (c.l.map fun x=>ye x)]=ckC c:=rfl
theorem xg5(c:Cz)(hl:c.l.length<1000000):(zu T).call 177 [czV c] [] 0 []=some (.int .i64 (ckC c),[],0,[]):=by
 rw[xdm];have e1:=xhp c.b c.l hl;have e2:=fun b=>za1 b (c.l.map fun x=>ye x) (by simp;omega);have e3:List.map intV (List.map (fun x=>ye x) c.l)=List.map (fun n=>V.int .i64 n) (List.map (fun x=>ye x) c.l):=rfl;rw[e3]at e1;simp -implicitDefEqProofs only[go_sem,simprocAttr,e1,e2,zio,zn9,zcx,zd1,xfy]
theorem ywp(b:Bool)(l:List (Int×Int))(hb:l.length<4611686018427387904):∀i,i≤l.length→(zu T).loop false [.code (.loop zjl),.inBlock 0,.code (.seq zls .ret)] ⟨160,19,0,[(0,.sl b 2 (l.map j5)),(3,.int .i64 i)],[],0,[]⟩=some (.ret (.int .i64 (xj ((l.drop i).map fun x=>ye x))),[],0,[]):=by
 refine xq l.length ?_ fun i hi ih=> ?_
 ·rw[zx]
  have h1:=z8 l.length;simp -implicitDefEqProofs only[go_sem,simprocAttr,h1];simp[xj]
 ·obtain⟨h1,h2,h3,h4,h5⟩:=zl hi (by omega)
  rw[zx,h5];cases h6:(ye l[i] !=0)
  ·have h7:ye l[i]=0:=by simpa using h6
   simp -implicitDefEqProofs only[go_sem,simprocAttr,h1,h2,h3,h4,h6,ih,yn4];simp[xj,h7]
  ·have h7:ye l[i]≠0:=by simpa using h6
   simp -implicitDefEqProofs only[go_sem,simprocAttr,h1,h2,h3,h4,h6,yn4];simp[xj,h7]
theorem xho(b:Bool)(l:List (Int×Int))(hb:l.length<4611686018427387904):(zu T).call 160 [.sl b 2 (l.map j5)] [] 0 []=some (.int .i64 (xj (l.map fun x=>ye x)),[],0,[]):=by
 rw[xdp];have h:=ywp b l hb 0 (by omega);rw[show((0:Nat):Int)=0 from rfl,List.drop_zero]at h;simp -implicitDefEqProofs only[go_sem,simprocAttr,h]
def zaw{α:Type}(P:α→Bool):List α→Nat→Int
 | [],_=> -1
 |x::r,i=>cond (P x) (i:Int) (zaw P r (i+1))
theorem yyz{α:Type}(P:α→Bool):∀(l:List α) (i:Nat),decide (0≤zaw P l i)=l.any P:=by
 intro l
 induction l with
 |nil=>intro i;rfl
 |cons x r ih=>
  intro i;simp only[zaw,List.any_cons];rw[←ih (i+1)];by_cases h:P x=true<;>simp[h]
theorem ywj(b:Bool)(s:List UInt8)(l:List Cz)(hb:l.length<1000000):∀i,i≤l.length→(zu T).loop false [.code (.loop zjm),.inBlock 0,.code (.seq zlt .ret)] ⟨159,20,0,[(0,.sl b 3 (l.map czV)),(1,.str s),(5,.int .i64 i)],[],0,[]⟩=some (.ret (.int .i64 (zaw (fun a=>a.n==s) (l.drop i) i)),[],0,[]):=by
 refine xq l.length ?_ fun i hi ih=> ?_
 ·rw[zx]
  have h1:=z8 l.length;simp -implicitDefEqProofs only[go_sem,simprocAttr,h1];simp[zaw]
 ·obtain⟨h1,h2,h3,h4,h5⟩:=zl hi (by omega)
  rw[zx,h5];cases h6:(l[i].n==s)
  ·simp -implicitDefEqProofs only[go_sem,simprocAttr,h1,h2,h3,h4,h6,ih]
   simp[zaw,h6]
  ·simp -implicitDefEqProofs only[go_sem,simprocAttr,h1,h2,h3,h4,h6]
   simp[zaw,h6]
theorem xhf(b:Bool)(s:List UInt8)(l:List Cz)(hb:l.length<1000000):(zu T).call 159 [.sl b 3 (l.map czV),.str s] [] 0 []=some (.int .i64 (zaw (fun a=>a.n==s) l 0),[],0,[]):=by
 rw[xdq];have h:=ywj b s l hb 0 (by omega);rw[show((0:Nat):Int)=0 from rfl,List.drop_zero]at h;simp -implicitDefEqProofs only[go_sem,simprocAttr,h]
def vq(l:List Cz)(i:Nat)(c:Cz):Bool:=(l.take i).any fun a=>a.n==c.n
def uq(l:List Cz)(i:Nat)(c:Cz):Int:=xj [cond (!zae c.n) 8 0,cond (vq l i c) 9 0,ckC c]
theorem xe9(l:List Cz)(i:Nat)(c:Cz):xj [cond (!zae c.n) 8 0,cond (vq l i c) 9 0,ckC c]=uq l i c:=rfl
def vw(l:List Cz):Nat→List Cz→List Int
 |_,[]=> []
 |i,m::r=>uq l i m::vw l (i+1) r
def jh(l:List Cz):Int:=if 8<l.length then 5 else xj (vw l 0 l)
theorem xag(a b:List Int):xj (a++b)=xj (a++ [xj b]):=by
 induction a with
 |nil=>
  simp only[List.nil_append,xj];by_cases h:xj b=0<;>simp[h]
 |cons x a ih=>simp only[List.cons_append,xj,ih]
theorem xe8(l:List Cz)(i:Nat)(c:Cz):xj [cond (!zae c.n) 8 0,cond (vq l i c) 9 0,wb c.c 0 7,cond ((c.l.length:Int)==0) 12 0,cond (decide (8<(c.l.length:Int))) 5 0,xj (c.l.map fun x=>ye x)]=uq l i c:=by
 have h1:=xag [cond (!zae c.n) 8 0,cond (vq l i c) 9 0] [wb c.c 0 7,cond ((c.l.length:Int)==0) 12 0,cond (decide (8<(c.l.length:Int))) 5 0,xj (c.l.map fun x=>ye x)];simp only[List.cons_append,List.nil_append]at h1;rw[h1];unfold uq ckC
 have h2:xj [wb c.c 0 7,cond ((c.l.length:Int)==0) 12 0,cond (decide (8<(c.l.length:Int))) 5 0,xj (c.l.map fun x=>ye x)]=xj [wb c.c 0 7,yo c.l.length 8,xj (c.l.map fun x=>ye x)]:=by
  unfold yo;simp only[xj];by_cases h:cond ((c.l.length:Int)==0) (12:Int) 0=0
  ·by_cases h':cond (decide (8<(c.l.length:Int))) (5:Int) 0=0
   ·simp[h,h']
   ·simp[h,h']
  ·simp[h]
 rw[h2]
def kvC(c:Cz):V×V:=(.str c.n,.bool true)
theorem ylj{eq:V→V→Option Bool}{x y:V}:∀{es:List (V×V)},(∀e∈es,eq x e.1=some false)→mapSet eq es x y=some (es++ [(x,y)])
 | [],_=>rfl
 |(a,b)::r,h=>by
  have h1:=h (a,b) (List.mem_cons_self ..);dsimp only at h1;simp only[mapSet,h1,ylj (es:=r) (fun e he=>h e (List.mem_cons_of_mem _ he)),List.cons_append]
theorem eq9(a b:List UInt8):eqT T 5 9 (.str a) (.str b)=some (a==b):=by
 simp -implicitDefEqProofs only[go_sem,simprocAttr]
theorem yx6(a:List UInt8):keyOk T 3 9 (.str a)=true:=by kernel_rfl
theorem yrm{l:List Cz}{i:Nat}(hi:i<l.length)(hd:vq l i l[i]=false):mapSet (eqT T 5 9) ((l.take i).map kvC) (.str l[i].n) (.bool true)=some ((l.take (i+1)).map kvC):=by
 rw[ylj]
 ·rw[List.take_succ_eq_append_getElem hi,List.map_append];rfl
 ·intro e he
  obtain⟨m,hm,rfl⟩:=List.mem_map.1 he;unfold vq at hd;rw[List.any_eq_false]at hd;have:=hd m hm;simp only[kvC];rw[eq9,Bool.beq_comm];simpa using this
theorem yzv(l:List Cz)(s:List UInt8):mapGet (eqT T 5 9) (l.map kvC) (.str s)=some (cond (l.any fun a=>a.n==s) (some (.bool true)) none):=by
 induction l with
 |nil=>rfl
 |cons c l ih=>
  simp only[List.map_cons,kvC,mapGet,eq9,List.any_cons];rw[Bool.beq_comm];cases h:(c.n==s)
  ·simpa[kvC]using ih
  ·rfl
def zgb(b:Bool)(l:List Cz)(i:Nat):Option Out:=
 (zu T).loop false [.code (.loop zjw),.inBlock 0,.code (.seq zl6 .ret)] ⟨127,38,0,[(3,.map 0),(11,.sl b 3 (l.map czV)),(12,.int .i64 l.length),(13,.int .i64 i)],[.map ((l.take i).map kvC)],0,[]⟩
theorem ywy(b:Bool)(l:List Cz)(hb:l.length<1000000)(hn:∀c∈l,c.n.length<1000000∧c.l.length<1000000):∀i,i≤l.length→zgb b l i=some (.ret (.int .i64 (xj (vw l i (l.drop i)))),[],0,[]):=by
 refine xq l.length ?_ fun i hi ih=> ?_
 ·unfold zgb
  rw[zx];have h1:=z8 l.length;simp -implicitDefEqProofs only[go_sem,simprocAttr,h1];simp[xj,vw]
 ·obtain⟨h1,h2,h3,h4,h5⟩:=zl hi (by omega)
  rw[h5];obtain⟨k1,k2⟩:=hn l[i] (List.getElem_mem hi);have e1:=xg6 l[i].n k1;have e2:=xg5 l[i] k2;have e3:=yzv (l.take i) l[i].n;have e4:=yx6 l[i].n;have ef:=xe9 l i l[i];simp only[czV]at e2;have ed:vq l i l[i]=(l.take i).any fun a=>a.n==l[i].n:=rfl;rw[←ed]at e3;cases h6:(uq l i l[i] !=0)
  ·have h7:uq l i l[i]=0:=by simpa using h6
   have h8:vq l i l[i]=false:=by
    have:=xt.1 h7 (cond (vq l i l[i]) 9 0) (by simp);cases hd:vq l i l[i]with
    |false=>rfl
    |true=>rw[hd]at this;cases this
   have e5:=yrm hi h8;unfold zgb at ih⊢;rw[zx];rw[h8]at e3 ef;simp only[cond_false]at ef e3;simp -implicitDefEqProofs only[go_sem,simprocAttr,h1,h2,h3,h4,e1,e2,e3,e4,jz,zd1,ef,h6,e5,ih,cond_false];simp[xj,vw,h7]
  ·have h7:uq l i l[i]≠0:=by simpa using h6
   unfold zgb;rw[zx];cases h8:vq l i l[i]
   ·rw[h8]at e3 ef
    simp only[cond_false]at ef e3;simp -implicitDefEqProofs only[go_sem,simprocAttr,h1,h2,h3,h4,e1,e2,e3,e4,jz,zd1,ef,h6,cond_false];simp[xj,vw,h7]
   ·rw[h8]at e3 ef
    simp only[cond_true]at ef e3;simp -implicitDefEqProofs only[go_sem,simprocAttr,h1,h2,h3,h4,e1,e2,e3,e4,jz,zd1,ef,h6,cond_true];simp[xj,vw,h7]
theorem xhy(b:Bool)(l:List Cz)(hb:l.length<1000000)(hn:∀c∈l,c.n.length<1000000∧c.l.length<1000000):(zu T).call 127 [.sl b 3 (l.map czV)] [] 0 []=some (.int .i64 (jh l),[],0,[]):=by
 rw[xec];have h:=ywy b l hb hn 0 (by omega);rw[List.drop_zero]at h;unfold zgb at h;rw[show((0:Nat):Int)=0 from rfl,List.take_zero,List.map_nil]at h;cases h1:decide (8<(l.length:Int))
 ·have h2:¬8<l.length:=by simp at h1;omega
  simp -implicitDefEqProofs only[go_sem,simprocAttr,h,h1];simp[jh,h2]
 ·have h2:8<l.length:=by simp at h1;omega
  simp -implicitDefEqProofs only[go_sem,simprocAttr,h1];simp[jh,h2]
theorem yw2(b:Bool)(l:List Cz)(hb:l.length<1000000)(hn:∀c∈l,c.n.length<1000000∧c.l.length<1000000):∀i,i≤l.length→(zu T).loop false [.code (.loop zit),.inBlock 0,.code (.seq zk1 .ret)] ⟨98,51,0,[(0,.sl b 3 (l.map czV)),(3,.int .i64 i)],[],0,[]⟩=some (.ret (.int .i64 (xj (vw l i (l.drop i)))),[],0,[]):=by
 refine xq l.length ?_ fun i hi ih=> ?_
 ·rw[zx]
  have h1:=z8 l.length;simp -implicitDefEqProofs only[go_sem,simprocAttr,h1];simp[xj,vw]
 ·obtain⟨h1,h2,h3,h4,h5⟩:=zl hi (by omega)
  rw[h5,zx];obtain⟨k1,k2⟩:=hn l[i] (List.getElem_mem hi);have e1:=xhg l[i].n k1;have e2:=xho l[i].b l[i].l (by omega);have e3:=xhf b l[i].n (l.take i) (by simp;omega);simp only[List.map_take]at e3;have e4:decide (0≤zaw (fun a:Cz=>a.n==l[i].n) (l.take i) 0)=vq l i l[i]:=yyz _ _ 0;have ef:=xe8 l i l[i];have hle:i≤l.length:=by omega
  cases h6:(uq l i l[i] !=0)
  ·have h7:uq l i l[i]=0:=by simpa using h6
   simp -implicitDefEqProofs only[go_sem,simprocAttr,h1,h2,h3,h4,e1,e2,e3,e4,y8,uo,yn2,ef,h6,ih];simp[xj,vw,h7,need,hle]
  ·have h7:uq l i l[i]≠0:=by simpa using h6
   simp -implicitDefEqProofs only[go_sem,simprocAttr,h1,h2,h3,h4,e1,e2,e3,e4,y8,uo,yn2,ef,h6];simp[xj,vw,h7,need,hle]
theorem xh1(b:Bool)(l:List Cz)(hb:l.length<1000000)(hn:∀c∈l,c.n.length<1000000∧c.l.length<1000000):(zu T).call 98 [.sl b 3 (l.map czV)] [] 0 []=some (.int .i64 (jh l),[],0,[]):=by
 rw[xbl];have h:=yw2 b l hb hn 0 (by omega);rw[show((0:Nat):Int)=0 from rfl,List.drop_zero]at h;cases h1:decide (8<(l.length:Int))
 ·have h2:¬8<l.length:=by simp at h1;omega
  simp -implicitDefEqProofs only[go_sem,simprocAttr,h,h1];simp[jh,h2]
 ·have h2:8<l.length:=by simp at h1;omega
  simp -implicitDefEqProofs only[go_sem,simprocAttr,h1];simp[jh,h2]
def rwV(r:Bool×List Int):V:= .sl r.1 1 (r.2.map intV)
structure Pk where
 vb:Bool
 v:List (Bool×List Int)
 n:Int
 cb:Bool
 c:List Cz
def z5(p:Pk):V:= .agg [.sl p.vb 1 (p.v.map rwV),.int .i64 p.n,.sl p.cb 3 (p.c.map czV)]
attribute [go_sem] rwV
def ku(s:Nat)(r:Bool×List Int):Int:=xj [yo r.2.length 8,cond ((r.2.length:Int) !=s) 2 0,xj (r.2.map fun n=>yf n)]
theorem xf4(s:Nat)(r:Bool×List Int):xj [yo r.2.length 8,cond ((r.2.length:Int) !=s) 2 0,xj (r.2.map fun n=>yf n)]=ku s r:=rfl
def kq(k s:Nat)(c:Cz):Int:=xj [cond (decide ((k:Int)≤c.c)) 10 0,cond ((c.l.length:Int) !=s) 2 0]
theorem zn5(k s:Nat)(c:Cz):xj [cond (decide ((k:Int)≤c.c)) 10 0,cond ((c.l.length:Int) !=s) 2 0]=kq k s c:=rfl
def Pk.fit(p:Pk):Prop:=p.v.length<1000∧(∀r∈p.v,r.2.length<1000)∧p.c.length<1000∧∀c∈p.c,c.n.length<1000000∧c.l.length<1000000
theorem zh3{p:Pk}{r0:Bool×List Int}(h:p.v[0]? =some r0):decide (0<(p.v.length:Int))=true:=by
 obtain⟨h,_⟩:=List.getElem?_eq_some_iff.1 h;exact decide_eq_true (by omega)
theorem yog(p:Pk)(r0 r:Bool×List Int)(h0:p.v[0]? =some r0)(hr:r.2.length<1000000):(zu T).call 124 [.sl r.1 1 (r.2.map intV),.pp 3 [z5 p] 0 0] [] 0 []=some (.int .i64 (ku r0.2.length r),[],0,[]):=by
 rw[xef];have g:=zh3 h0;have e1:=xh0 r.1 r.2 hr;have e2:=fun b=>za1 b (r.2.map fun n=>yf n) (by simp;omega);have e3:List.map intV (List.map (fun x=>yf x) r.2)=List.map (fun n=>V.int .i64 n) (List.map (fun x=>yf x) r.2):=rfl;rw[e3]at e1;simp -implicitDefEqProofs only[go_sem,simprocAttr,z5,h0,g,e1,e2,jz,zn9,zcx,zd1,xf4]
theorem yof(p:Pk)(r0:Bool×List Int)(c:Cz)(h0:p.v[0]? =some r0):(zu T).call 125 [.agg [.str c.n,.int .i64 c.c,.sl c.b 2 (c.l.map j5)],.pp 3 [z5 p] 0 0] [] 0 []=some (.int .i64 (kq p.v.length r0.2.length c),[],0,[]):=by
 rw[xee];have g:=zh3 h0;simp -implicitDefEqProofs only[go_sem,simprocAttr,z5,h0,g,jz,zil,zn5]
theorem ywz(p:Pk)(r0:Bool×List Int)(h0:p.v[0]? =some r0)(b:Bool)(l:List (Bool×List Int))(hb:l.length<1000000)(hr:∀r∈l,r.2.length<1000000):∀i,i≤l.length→∀o:Option (List (Int)),ki o=i→
  (zu T).loop false [.code (.loop zjx),.inBlock 0,.code (.seq zl7 .ret)] ⟨126,22,0,[(1,.fn 124 [.pp 3 [z5 p] 0 0]),(5,uj o 0),(8,.sl b 1 (l.map rwV)),(9,.int .i64 l.length),(10,.int .i64 i)],uv intV o 39,0,[]⟩=
   some (.ret (yp intV 0 1 (j6 o ((l.drop i).map (fun r=>ku r0.2.length r)))),[],0,[]):=by
 refine xq l.length ?_ fun i hi ih o ho=> ?_
 ·intro o ho
  rw[zx];have h1:=z8 l.length;cases o with
  |none=>
   simp -implicitDefEqProofs only[go_sem,simprocAttr,h1];simp[j6,yp]
  |some a=>
   simp -implicitDefEqProofs only[go_sem,simprocAttr,h1];simp[j6,yp]
 ·obtain⟨h1,h2,h3,h4,h5⟩:=zl hi (by omega)
  rw[zx,h5];have ih':=ih (j6 o [((fun r=>ku r0.2.length r) l[i])]) (by rw[yw,ho];rfl);rw[yy]at ih';dsimp only at ih';cases o with
  |none=>
   have h8:=xw (n:=0) (by omega);simp only[v9,qx,qq,List.map_cons,List.map_nil,intV]at ih';simp -implicitDefEqProofs only[go_sem,simprocAttr,h1,h2,h3,h4,ih',h8.2,yog p r0 l[i] h0 (hr _ (List.getElem_mem hi))]
  |some a=>
   have h9:a.length=i:=ho;have h8:=(xw (n:=a.length) (by omega)).1;simp only[v7,qx,qq,List.map_append,List.map_cons,List.map_nil,intV]at ih';simp -implicitDefEqProofs only[go_sem,simprocAttr,h1,h2,h3,h4,ih',h8,yog p r0 l[i] h0 (hr _ (List.getElem_mem hi))]
theorem xhz(p:Pk)(r0:Bool×List Int)(h0:p.v[0]? =some r0)(b:Bool)(l:List (Bool×List Int))(hb:l.length<1000000)(hr:∀r∈l,r.2.length<1000000):(zu T).call 126 [.sl b 1 (l.map rwV),.fn 124 [.pp 3 [z5 p] 0 0]] [] 0 []=some (yr 1 (((l).map (fun r=>ku r0.2.length r)).map intV),[],0,[]):=by
 rw[xed];have h:=ywz p r0 h0 b l hb hr 0 (by omega) none rfl;rw[show((0:Nat):Int)=0 from rfl,List.drop_zero,yj]at h;simp only[ji,j0]at h;simp -implicitDefEqProofs only[go_sem,simprocAttr,h]
theorem ywx(p:Pk)(r0:Bool×List Int)(h0:p.v[0]? =some r0)(b:Bool)(l:List (Cz))(hb:l.length<1000000):∀i,i≤l.length→∀o:Option (List (Int)),ki o=i→
  (zu T).loop false [.code (.loop zjv),.inBlock 0,.code (.seq zl5 .ret)] ⟨128,22,0,[(1,.fn 125 [.pp 3 [z5 p] 0 0]),(5,uj o 0),(8,.sl b 3 (l.map czV)),(9,.int .i64 l.length),(10,.int .i64 i)],uv intV o 39,0,[]⟩=
   some (.ret (yp intV 0 1 (j6 o ((l.drop i).map (fun c=>kq p.v.length r0.2.length c)))),[],0,[]):=by
 refine xq l.length ?_ fun i hi ih o ho=> ?_
 ·intro o ho
  rw[zx];have h1:=z8 l.length;cases o with
  |none=>
   simp -implicitDefEqProofs only[go_sem,simprocAttr,h1];simp[j6,yp]
  |some a=>
   simp -implicitDefEqProofs only[go_sem,simprocAttr,h1];simp[j6,yp]
 ·obtain⟨h1,h2,h3,h4,h5⟩:=zl hi (by omega)
  rw[zx,h5];have ih':=ih (j6 o [((fun c=>kq p.v.length r0.2.length c) l[i])]) (by rw[yw,ho];rfl);rw[yy]at ih';dsimp only at ih';cases o with
  |none=>
   have h8:=xw (n:=0) (by omega);simp only[v9,qx,qq,List.map_cons,List.map_nil,intV]at ih';simp -implicitDefEqProofs only[go_sem,simprocAttr,h1,h2,h3,h4,ih',h8.2,yof p r0 l[i] h0]
  |some a=>
   have h9:a.length=i:=ho;have h8:=(xw (n:=a.length) (by omega)).1;simp only[v7,qx,qq,List.map_append,List.map_cons,List.map_nil,intV]at ih';simp -implicitDefEqProofs only[go_sem,simprocAttr,h1,h2,h3,h4,ih',h8,yof p r0 l[i] h0]
theorem xhx(p:Pk)(r0:Bool×List Int)(h0:p.v[0]? =some r0)(b:Bool)(l:List (Cz))(hb:l.length<1000000):(zu T).call 128 [.sl b 3 (l.map czV),.fn 125 [.pp 3 [z5 p] 0 0]] [] 0 []=some (yr 1 (((l).map (fun c=>kq p.v.length r0.2.length c)).map intV),[],0,[]):=by
 rw[xeb];have h:=ywx p r0 h0 b l hb 0 (by omega) none rfl;rw[show((0:Nat):Int)=0 from rfl,List.drop_zero,yj]at h;simp only[ji,j0]at h;simp -implicitDefEqProofs only[go_sem,simprocAttr,h]
def vi(p:Pk):Int:=if yo p.v.length 8=0 then xj [xj (p.v.map fun r=>ku ((p.v[0]?.getD (false,[])).2.length) r),yf p.n,jh p.c,xj (p.c.map fun c=>kq p.v.length ((p.v[0]?.getD (false,[])).2.length) c)]else yo p.v.length 8
theorem zgf{n:Nat}(h:yo n 8=0):0<n∧n≤8:=by
 unfold yo at h;have h1:=xt.1 h (cond ((n:Int)==0) 12 0) (by simp);have h2:=xt.1 h (cond (decide (8<(n:Int))) 5 0) (by simp);constructor
 ·cases n with
  |zero=>cases h1
  |succ n=>omega
 ·by_cases hc:8<(n:Int)
  ·simp[hc]at h2
  ·omega
theorem c23(p:Pk)(hf:p.fit):(zu T).call 59 [z5 p] [] 0 []=some (.int .i64 (vi p),[],0,[]):=by
 rw[xcd];obtain⟨f1,f2,f3,f4⟩:=hf;have e1:=zn9 p.v.length 8;rw[zcx]at e1;unfold vi;cases h:(yo p.v.length 8 !=0)
 ·have h0:yo p.v.length 8=0:=by simpa using h
  rw[if_pos h0];obtain⟨k1,k2⟩:=zgf h0;have hr0:p.v[0]? =some p.v[0]:=List.getElem?_eq_getElem k1;have e2:=xhz p p.v[0] hr0 p.vb p.v (by omega) (fun r hr=>by have:=f2 r hr;omega);have e3:=xhx p p.v[0] hr0 p.cb p.c (by omega);have e4:=xhy p.cb p.c (by omega) f4;have e5:=fun b=>za1 b (p.v.map fun r=>ku p.v[0].2.length r) (by simp;omega);have e6:=fun b=>za1 b (p.c.map fun c=>kq p.v.length p.v[0].2.length c) (by simp;omega);have t1:List.map intV (List.map (fun r=>ku p.v[0].2.length r) p.v)=List.map (fun n=>V.int .i64 n) (List.map (fun r=>ku p.v[0].2.length r) p.v):=rfl;have t2:List.map intV (List.map (fun c=>kq p.v.length p.v[0].2.length c) p.c)=List.map (fun n=>V.int .i64 n) (List.map (fun c=>kq p.v.length p.v[0].2.length c) p.c):=rfl;rw[t1]at e2;rw[t2]at e3;rw[hr0];dsimp only[Option.getD_some];have e7:=xgk true (xj (p.v.map fun r=>ku p.v[0].2.length r)) (yf p.n) (jh p.c) (xj (p.c.map fun c=>kq p.v.length p.v[0].2.length c));simp only[z5]at e2 e3;simp -implicitDefEqProofs only[go_sem,simprocAttr,z5,e1,h,e2,e3,e4,e5,e6,e7,ziq]
 ·have h0:¬yo p.v.length 8=0:=by simpa using h
  rw[if_neg h0];simp -implicitDefEqProofs only[go_sem,simprocAttr,z5,e1,h]
def chQ(s:Nat)(r:Bool×List Int):Int:=xj [cond ((r.2.length:Int)==0) 12 0,cond (decide (8<(r.2.length:Int))) 5 0,cond ((r.2.length:Int) !=s) 2 0]
theorem zn0(s:Nat)(r:Bool×List Int):xj [cond ((r.2.length:Int)==0) 12 0,cond (decide (8<(r.2.length:Int))) 5 0,cond ((r.2.length:Int) !=s) 2 0]=chQ s r:=rfl
theorem xf3(s:Nat)(r:Bool×List Int):ku s r=if chQ s r=0 then xj (r.2.map fun n=>yf n)else chQ s r:=by
 unfold ku chQ yo;simp only[xj];by_cases h:cond ((r.2.length:Int)==0) (12:Int) 0=0
 ·by_cases h':cond (decide (8<(r.2.length:Int))) (5:Int) 0=0
  ·by_cases h'':cond ((r.2.length:Int) !=s) (2:Int) 0=0
   ·simp only[h,h',h'',if_true]
    by_cases h3:xj (r.2.map fun n=>yf n)=0<;>simp[h3]
   ·simp[h,h',h'']
  ·simp[h,h']
 ·simp[h]
def ua(e:Int)(x:Option Out):Option Out:=if e=0 then x else some (.ret (.int .i64 e),[],0,[])
theorem yol{a:Int}{l:List Int}{x:Option Out}(h:a=0):ua (xj (a::l)) x=ua (xj l) x:=by simp[ua,xj,h]
theorem zoe{a:Int}{l:List Int}{x:Option Out}(h:¬a=0):ua (xj (a::l)) x=some (.ret (.int .i64 a),[],0,[]):=by simp[ua,xj,h]
def zcr(p:Pk)(s:Nat)(r:Bool×List Int)(i k:Nat):Option Out:=
 (zu T).loop false [.code (.loop zi3),.inBlock 2,.inBlock 1,.code zlb,.inLoop zfx,.inBlock 0,.code (.seq (.seq zgw (.seq zgv (.cond (.tmp 86) (.seq zgu .ret) .skip))) (.seq (.seq zgt (.block 4 (.loop zd3))) (.seq zem .ret)))]
  ⟨33,121,0,[(1,.ptr 0 0 0),(4,.int .i64 s),(5,.int .i64 i),(6,.sl r.1 1 (r.2.map intV)),(8,.int .i64 k)],[.cells true true 34 [z5 p]],0,[]⟩
theorem yv9(p:Pk)(s:Nat)(r:Bool×List Int)(i:Nat)(hr:r.2.length<1000000):∀k,k≤r.2.length→zcr p s r i k=ua (xj ((r.2.drop k).map fun n=>yf n)) (zcr p s r i r.2.length):=by
 refine xq r.2.length ?_ fun k hk ih=> ?_
 ·have h0:r.2.drop r.2.length= []:=by simp
  rw[h0];rfl
 ·obtain⟨h1,h2,h3,h4,h5⟩:=zl hk (by omega)
  rw[h5,List.map_cons]
  conv=>lhs;unfold zcr;rw[zx]
  cases h6:(yf r.2[k] !=0)
  ·have h7:yf r.2[k]=0:=by simpa using h6
   rw[yol h7,←ih];unfold zcr;simp -implicitDefEqProofs only[go_sem,simprocAttr,z5,h1,h2,h3,h4,h6,zir]
  ·have h7:¬yf r.2[k]=0:=by simpa using h6
   rw[zoe h7];simp -implicitDefEqProofs only[go_sem,simprocAttr,z5,h1,h2,h3,h4,h6,zir]
def ui(p:Pk)(s:Nat)(i:Nat):Option Out:=
 (zu T).loop false [.code (.loop zfx),.inBlock 0,.code (.seq (.seq zgw (.seq zgv (.cond (.tmp 86) (.seq zgu .ret) .skip))) (.seq (.seq zgt (.block 4 (.loop zd3))) (.seq zem .ret)))]
  ⟨33,121,0,[(1,.ptr 0 0 0),(4,.int .i64 s),(5,.int .i64 i)],[.cells true true 34 [z5 p]],0,[]⟩
theorem ywd(p:Pk)(s:Nat)(hv:p.v.length<1000)(hr:∀r∈p.v,r.2.length<1000):∀i,i≤p.v.length→ui p s i=ua (xj ((p.v.drop i).map fun r=>ku s r)) (ui p s p.v.length):=by
 refine xq p.v.length ?_ fun i hi ih=> ?_
 ·have h0:p.v.drop p.v.length= []:=by simp
  rw[h0];rfl
 ·obtain⟨h1,h2,h3,h4,h5⟩:=zl hi (by omega)
  rw[h5,List.map_cons];have hri:=hr _ (List.getElem_mem hi);have hI:=yv9 p s p.v[i] i (by omega) 0 (by omega);rw[List.drop_zero]at hI;have hE:=z8 p.v[i].2.length
  have fin:zcr p s p.v[i] i p.v[i].2.length=ui p s (i+1):=by
   unfold zcr ui;rw[zx];simp -implicitDefEqProofs only[go_sem,simprocAttr,z5,hE,h4]
  rw[fin]at hI
  conv at hI=>lhs;unfold zcr
  rw[show((0:Nat):Int)=0 from rfl]at hI;simp only[z5]at hI
  conv=>lhs;unfold ui;rw[zx]
  have hch:=xf3 s p.v[i];cases h6:(chQ s p.v[i] !=0)
  ·have h7:chQ s p.v[i]=0:=by simpa using h6
   rw[if_pos h7]at hch;by_cases h8:xj (p.v[i].2.map fun n=>yf n)=0
   ·rw[h8]at hch
    unfold ua at hI;rw[if_pos h8]at hI;rw[yol hch,←ih]
    conv at hI=>rhs;unfold ui
    simp only[z5]at hI
    conv=>rhs;unfold ui
    simp -implicitDefEqProofs only[go_sem,simprocAttr,z5,h1,h2,h3,h4,y8,zfp,zn0,h6,hI]
   ·unfold ua at hI
    rw[if_neg h8,←hch]at hI;rw[←hch]at h8;rw[zoe h8];simp -implicitDefEqProofs only[go_sem,simprocAttr,z5,h1,h2,h3,h4,y8,zfp,zn0,h6,hI]
  ·have h7:¬chQ s p.v[i]=0:=by simpa using h6
   rw[if_neg h7]at hch;rw[←hch]at h7;rw[zoe h7,hch];simp -implicitDefEqProofs only[go_sem,simprocAttr,z5,h1,h2,h3,h4,y8,zfp,zn0,h6]
def zj5(p:Pk)(s:Nat)(i:Nat):Option Out:=
 (zu T).loop false [.code (.loop zd3),.inBlock 4,.code (.seq zem .ret)]
  ⟨33,121,0,[(1,.ptr 0 0 0),(4,.int .i64 s),(11,.int .i64 i)],[.cells true true 34 [z5 p]],0,[]⟩
theorem ywa(p:Pk)(s:Nat)(hc:p.c.length<1000):∀i,i≤p.c.length→zj5 p s i=some (.ret (.int .i64 (xj ((p.c.drop i).map fun c=>kq p.v.length s c))),[],0,[]):=by
 refine xq p.c.length ?_ fun i hi ih=> ?_
 ·have h0:p.c.drop p.c.length= []:=by simp
  rw[h0];unfold zj5;rw[zx];have h1:=z8 p.c.length;simp -implicitDefEqProofs only[go_sem,simprocAttr,z5,h1];simp[xj]
 ·obtain⟨h1,h2,h3,h4,h5⟩:=zl hi (by omega)
  rw[h5,List.map_cons];simp only[xj];unfold zj5 at ih⊢;simp only[z5]at ih;rw[zx];cases h6:(kq p.v.length s p.c[i] !=0)
  ·have h7:kq p.v.length s p.c[i]=0:=by simpa using h6
   rw[if_pos h7];simp -implicitDefEqProofs only[go_sem,simprocAttr,z5,h1,h2,h3,h4,y8,jr,zn5,h6,ih]
  ·have h7:¬kq p.v.length s p.c[i]=0:=by simpa using h6
   rw[if_neg h7];simp -implicitDefEqProofs only[go_sem,simprocAttr,z5,h1,h2,h3,h4,y8,jr,zn5,h6]
theorem xah(a b c d:Int):xj [a,b,c,d]=if a=0 then(if xj [b,c]=0 then d else xj [b,c])else a:=by
 simp only[xj];by_cases h:a=0
 ·by_cases h':b=0
  ·by_cases h'':c=0
   ·by_cases h3:d=0<;>simp[h,h',h'',h3]
   ·simp[h,h',h'']
  ·simp[h,h']
 ·simp[h]
theorem c20(p:Pk)(hf:p.fit):(zu T).call 33 [z5 p] [] 0 []=some (.int .i64 (vi p),[],0,[]):=by
 rw[xcl];obtain⟨f1,f2,f3,f4⟩:=hf;unfold vi;cases h:(yo p.v.length 8 !=0)
 ·have h0:yo p.v.length 8=0:=by simpa using h
  rw[if_pos h0];obtain⟨k1,k2⟩:=zgf h0;have hr0:p.v[0]? =some p.v[0]:=List.getElem?_eq_getElem k1;have g:=zh3 hr0;rw[hr0];dsimp only[Option.getD_some];rw[xah];have hL:=ywd p p.v[0].2.length f1 f2 0 (by omega);rw[List.drop_zero]at hL;have hC:=ywa p p.v[0].2.length f3 0 (by omega);rw[List.drop_zero]at hC;unfold zj5 at hC;rw[show((0:Nat):Int)=0 from rfl]at hC;simp only[z5]at hC;have e4:=xh1 p.cb p.c (by omega) f4;have hE:=z8 p.v.length;by_cases h8:xj (p.v.map fun r=>ku p.v[0].2.length r)=0
  ·unfold ua at hL
   rw[if_pos h8]at hL⊢
   have fin:ui p p.v[0].2.length p.v.length=some (.ret (.int .i64 (if xj [yf p.n,jh p.c]=0 then xj (p.c.map fun c=>kq p.v.length p.v[0].2.length c)else xj [yf p.n,jh p.c])),[],0,[]):=by
    unfold ui;rw[zx];cases h9:(xj [yf p.n,jh p.c] !=0)
    ·have h10:xj [yf p.n,jh p.c]=0:=by simpa using h9
     rw[if_pos h10];simp -implicitDefEqProofs only[go_sem,simprocAttr,z5,hE,e4,zir,jr,h9,hC]
    ·have h10:¬xj [yf p.n,jh p.c]=0:=by simpa using h9
     rw[if_neg h10];simp -implicitDefEqProofs only[go_sem,simprocAttr,z5,hE,e4,zir,jr,h9]
   rw[fin]at hL;unfold ui at hL;rw[show((0:Nat):Int)=0 from rfl]at hL;simp only[z5]at hL;simp -implicitDefEqProofs only[go_sem,simprocAttr,z5,y8,jr,zcx,h,g,hr0,hL]
  ·unfold ua at hL
   rw[if_neg h8]at hL⊢;unfold ui at hL;rw[show((0:Nat):Int)=0 from rfl]at hL;simp only[z5]at hL;simp -implicitDefEqProofs only[go_sem,simprocAttr,z5,y8,jr,zcx,h,g,hr0,hL]
 ·have h0:¬yo p.v.length 8=0:=by simpa using h
  rw[if_neg h0];simp -implicitDefEqProofs only[go_sem,simprocAttr,z5,y8,jr,zcx,h]
def jg(c:Cz):Cz:=⟨c.n,c.c,true,c.l⟩
theorem ywo(b:Bool)(l:List Cz)(hb:l.length<1000)(hl:∀c∈l,c.l.length<1000000):∀i,i≤l.length→∀o:Option (List Cz),ki o=i→
  (zu T).loop false [.code (.loop zis),.inBlock 0,.code (.seq zk0 .ret)] ⟨99,26,0,[(0,.sl b 3 (l.map czV)),(3,uj o 0),(4,.int .i64 i)],uv czV o 54,0,[]⟩=
   some (.ret (yp czV 0 3 (j6 o ((l.drop i).map jg))),[],0,[]):=by
 refine xq l.length ?_ fun i hi ih o ho=> ?_
 ·intro o ho
  rw[zx];have h1:=z8 l.length;cases o with
  |none=>
   simp -implicitDefEqProofs only[go_sem,simprocAttr,h1];simp[j6,yp]
  |some a=>
   simp -implicitDefEqProofs only[go_sem,simprocAttr,h1];simp[j6,yp]
 ·obtain⟨h1,h2,h3,h4,h5⟩:=zl hi (by omega)
  rw[zx,h5];have ih':=ih (j6 o [jg l[i]]) (by rw[yw,ho];rfl);rw[yy]at ih';have hli:=hl _ (List.getElem_mem hi);cases hx:l[i].l with
  |nil=>
   cases o with
   |none=>
    have h8:=xw (n:=0) (by omega);simp only[v9,qx,qq,List.map_cons,List.map_nil,czV,jg,hx]at ih';simp -implicitDefEqProofs only[go_sem,simprocAttr,h1,h2,h3,h4,hx,ih',h8.2,jg]
   |some a=>
    have h9:a.length=i:=ho;have h8:=(xw (n:=a.length) (by omega)).1;simp only[v7,qx,qq,List.map_append,List.map_cons,List.map_nil,czV,jg,hx]at ih';simp -implicitDefEqProofs only[go_sem,simprocAttr,h1,h2,h3,h4,hx,ih',h8,jg]
  |cons y r=>
   have h7:=(xw (n:=r.length) (by rw[hx]at hli;simp at hli;omega)).1;cases o with
   |none=>
    have h8:=xw (n:=0) (by omega);simp only[v9,qx,qq,List.map_cons,List.map_nil,czV,jg,hx,j5]at ih';simp -implicitDefEqProofs only[go_sem,simprocAttr,h1,h2,h3,h4,hx,ih',h8.2,h7,jg]
   |some a=>
    have h9:a.length=i:=ho;have h8:=(xw (n:=a.length) (by omega)).1;simp only[v7,qx,qq,List.map_append,List.map_cons,List.map_nil,czV,jg,hx,j5]at ih';simp -implicitDefEqProofs only[go_sem,simprocAttr,h1,h2,h3,h4,hx,ih',h8,h7,jg]
theorem xhl(b:Bool)(l:List Cz)(hb:l.length<1000)(hl:∀c∈l,c.l.length<1000000):(zu T).call 99 [.sl b 3 (l.map czV)] [] 0 []=some (yr 3 ((l.map jg).map czV),[],0,[]):=by
 rw[xbk];have h:=ywo b l hb hl 0 (by omega) none rfl;rw[show((0:Nat):Int)=0 from rfl,List.drop_zero,yj]at h;simp only[ji,j0]at h;simp -implicitDefEqProofs only[go_sem,simprocAttr,h]
def zap(r:Bool×List Int):Bool×List Int:=(true,r.2)
def L88(p:Pk)(o:Option (List (Bool×List Int)))(i:Nat):Option Out:=
 (zu T).loop false [.code (.loop zi2),.inBlock 0,.code (.seq zla (.seq zk9 .ret))]
  ⟨36,32,0,[(1,.ptr 0 0 0),(2,.ptr 1 0 0),(3,.ptr 2 0 0),(4,.int .i64 i)],.cells true true 34 [z5 p]:: .cells true true 34 [.agg [.sl false 0 [],.int .i64 0,.sl false 0 []]]:: .cells true o.isNone 34 [.agg [uj o 3,.int .i64 p.n,.sl false 0 []]]::uv rwV o 35,0,[]⟩
def zg3(p:Pk):V:= .agg [yr 1 ((p.v.map zap).map rwV),.int .i64 p.n,.sl (!((p.c.map jg).map czV).isEmpty) 3 ((p.c.map jg).map czV)]
theorem yvz(p:Pk)(hf:p.fit):∀i,i≤p.v.length→∀o:Option (List (Bool×List Int)),ki o=i→
  L88 p o i=some (.ret (.agg [yp rwV 0 1 (j6 o ((p.v.drop i).map zap)),.int .i64 p.n,.sl (!((p.c.map jg).map czV).isEmpty) 3 ((p.c.map jg).map czV)]),[],0,[]):=by
 obtain⟨f1,f2,f3,f4⟩:=hf;have e1:=xhl p.cb p.c f3 (fun c hc=>(f4 c hc).2);refine xq p.v.length ?_ fun i hi ih o ho=> ?_
 ·intro o ho
  unfold L88;rw[zx];have h1:=z8 p.v.length;cases o with
  |none=>
   simp only[ji,j0,Option.isNone_none];simp -implicitDefEqProofs only[go_sem,simprocAttr,z5,h1,e1];simp[j6,yp]
  |some a=>
   simp only[qx,qq,Option.isNone_some];simp -implicitDefEqProofs only[go_sem,simprocAttr,z5,h1,e1];simp[j6,yp]
 ·obtain⟨h1,h2,h3,h4,h5⟩:=zl hi (by omega)
  rw[h5];have ih':=ih (j6 o [zap p.v[i]]) (by rw[yw,ho];rfl);rw[yy]at ih';have hli:=f2 _ (List.getElem_mem hi);unfold L88 at ih'⊢;rw[zx];cases hx:p.v[i].2 with
  |nil=>
   cases o with
   |none=>
    have h8:=xw (n:=0) (by omega);simp only[v9,qx,qq,ji,j0,Option.isNone_some,Option.isNone_none,List.map_cons,List.map_nil,rwV,zap,hx,z5]at ih'⊢;simp -implicitDefEqProofs only[go_sem,simprocAttr,z5,h1,h2,h3,h4,hx,ih',h8.2]
   |some a=>
    have h9:a.length=i:=ho;have h8:=(xw (n:=a.length) (by omega)).1;simp only[v7,qx,qq,Option.isNone_some,List.map_append,List.map_cons,List.map_nil,rwV,zap,hx,z5]at ih'⊢;simp -implicitDefEqProofs only[go_sem,simprocAttr,z5,h1,h2,h3,h4,hx,ih',h8]
  |cons y r=>
   have h7:=(xw (n:=r.length) (by rw[hx]at hli;simp at hli;omega)).1;cases o with
   |none=>
    have h8:=xw (n:=0) (by omega);simp only[v9,qx,qq,ji,j0,Option.isNone_some,Option.isNone_none,List.map_cons,List.map_nil,rwV,zap,hx,z5,intV]at ih'⊢;simp -implicitDefEqProofs only[go_sem,simprocAttr,z5,h1,h2,h3,h4,hx,ih',h8.2,h7]
   |some a=>
    have h9:a.length=i:=ho;have h8:=(xw (n:=a.length) (by omega)).1;simp only[v7,qx,qq,Option.isNone_some,List.map_append,List.map_cons,List.map_nil,rwV,zap,hx,z5,intV]at ih'⊢;simp -implicitDefEqProofs only[go_sem,simprocAttr,z5,h1,h2,h3,h4,hx,ih',h8,h7]
theorem c88(p:Pk)(hf:p.fit):(zu T).call 36 [z5 p] [] 0 []=some (zg3 p,[],0,[]):=by
 rw[xck];have h:=yvz p hf 0 (by omega) none rfl;rw[List.drop_zero,yj]at h;unfold L88 at h;rw[show((0:Nat):Int)=0 from rfl]at h;simp only[ji,j0,Option.isNone_none,z5]at h;unfold zg3;simp -implicitDefEqProofs only[go_sem,simprocAttr,z5,h]
theorem zin(x:Int):(zu T).call 184 [.int .i64 x] [] 0 []=some (.bool false,[],0,[]):=by
 rw[xdg];have h:(x !=x)=false:=by simp
 simp -implicitDefEqProofs only[go_sem,simprocAttr,h]
theorem yn3(x y:Int):(zu T).call 240 [.int .i64 x,.int .i64 y] [] 0 []=some (.bool (decide (x<y)),[],0,[]):=by
 rw[xcu];simp -implicitDefEqProofs only[go_sem,simprocAttr,zin]
def jw(x:Int):List Int→List Int
 | []=> [x]
 |p::r=>if x<p then p::jw x r else x::p::r
def zc1(acc:List Int):List Int→List Int
 | []=>acc
 |x::r=>zc1 (jw x acc) r
def y7(l:List Int):List Int:=(zc1 [] l).reverse
theorem zm2(x:Int)(l:List Int):(jw x l).length=l.length+1:=by
 induction l with
 |nil=>rfl
 |cons p r ih=>simp only[jw];split<;>simp[ih]
theorem ylw(x:Int)(l:List Int):(jw x l).Perm (x::l):=by
 induction l with
 |nil=>exact .refl _
 |cons p r ih=>
  simp only[jw];split
  ·exact(ih.cons p).trans (.swap x p r)
  ·exact .refl _
theorem yyr(x:Int)(l:List Int)(h:l.Pairwise (· ≥ ·)):(jw x l).Pairwise (· ≥ ·):=by
 induction l with
 |nil=>simp[jw]
 |cons p r ih=>
  rw[List.pairwise_cons]at h;simp only[jw];split
  ·rename_i hx
   rw[List.pairwise_cons];refine⟨fun y hy=> ?_,ih h.2⟩;rcases List.mem_cons.1 ((ylw x r).mem_iff.1 hy)with rfl|hy
   ·omega
   ·exact h.1 y hy
  ·rename_i hx
   rw[List.pairwise_cons,List.pairwise_cons];refine⟨fun y hy=> ?_,h⟩;rcases List.mem_cons.1 hy with rfl|hy
   ·omega
   ·have:=h.1 y hy;omega
theorem zko:∀(l acc:List Int),acc.Pairwise (· ≥ ·)→(zc1 acc l).Pairwise (· ≥ ·)∧(zc1 acc l).Perm (l++acc)
 | [],acc,h=>⟨h,.refl _⟩
 |x::r,acc,h=>by
  obtain⟨h1,h2⟩:=zko r (jw x acc) (yyr x acc h);refine⟨h1,h2.trans ?_⟩;have:=(ylw x acc).append_left r;exact this.trans List.perm_middle
theorem yq6(l:List Int):(y7 l).Pairwise (· ≤ ·):=by
 unfold y7;rw[List.pairwise_reverse];exact(zko l [] List.Pairwise.nil).1
theorem zpa(l:List Int):(y7 l).Perm l:=by
 unfold y7;have:=(zko l [] List.Pairwise.nil).2;rw[List.append_nil]at this;exact(List.reverse_perm _).trans this
theorem yzs(R Q:List Int)(x:Int):(R.reverse++x::Q)[R.length]? =some x:=by
 rw[List.getElem?_append_right (by simp)];simp
theorem yzt(R Q:List Int)(p x:Int):((p::R).reverse++x::Q)[R.length]? =some p:=by
 rw[List.reverse_cons,List.append_assoc,List.getElem?_append_right (by simp)];simp
theorem yqs(R Q:List Int)(p x:Int):(((p::R).reverse++x::Q).set (R.length+1) p).set R.length x=R.reverse++x::p::Q:=by
 rw[List.reverse_cons,List.append_assoc,List.set_append_right _ _ (by simp),List.set_append_right _ _ (by simp)];simp
def zeb(l:List Int)(n i j:Nat):Option Out:=
 (zu T).loop false [.code (.loop zi7),.inBlock 2,.inBlock 1,.code zlf,.inLoop zfy,.inBlock 0]
  ⟨234,49,1,[(0,.ref 0),(1,.int .i64 0),(2,.int .i64 n),(6,.int .i64 i),(7,.int .i64 j)],[.cells false true 3 (l.map intV)],0,[]⟩
def zbt(l:List Int)(n i:Nat):Option Out:=
 (zu T).loop false [.code (.loop zfy),.inBlock 0]
  ⟨234,49,1,[(0,.ref 0),(1,.int .i64 0),(2,.int .i64 n),(6,.int .i64 i)],[.cells false true 3 (l.map intV)],0,[]⟩
theorem yv3(n i:Nat)(hn:n<1000000)(hi:i<1000000)(x:Int):∀(R Q:List Int),(R.reverse++x::Q).length<1000000→zeb (R.reverse++x::Q) n i R.length=zbt ((jw x R).reverse++Q) n (i+1):=by
 intro R
 induction R with
 |nil=>
  intro Q hl;unfold zeb;rw[zx];have h4:IntKind.i64.wrap ((i:Int)+1)=((i+1:Nat):Int):=by rw[wrap64]<;>omega
  simp only[List.length_nil,jw,List.reverse_nil,List.nil_append,List.reverse_cons,List.cons_append];unfold zbt;simp -implicitDefEqProofs only[go_sem,simprocAttr,h4]
 |cons p R ih=>
  intro Q hl;have g1:=yzs (p::R) Q x;have g2:=yzt R Q p x;have g3:=yqs R Q p x;have hll:((p::R).reverse++x::Q).length=R.length+2+Q.length:=by simp;omega
  rw[hll]at hl;have w1:IntKind.i64.wrap (((R.length+1:Nat):Int)- 1)=(R.length:Int):=by rw[wrap64]<;>omega
  have w2:IntKind.i64.wrap ((i:Int)+1)=((i+1:Nat):Int):=by rw[wrap64]<;>omega
  have d1:decide (0<((R.length+1:Nat):Int))=true:=decide_eq_true (by omega);have d2:decide (0≤((R.length+1:Nat):Int)∧((R.length+1:Nat):Int)<(((p::R).reverse++x::Q).length:Int))=true:=by rw[hll];exact decide_eq_true (by omega)
  have d3:decide (0≤(R.length:Int)∧(R.length:Int)<(((p::R).reverse++x::Q).length:Int))=true:=by rw[hll];exact decide_eq_true (by omega)
  have ih':=ih (p::Q) (by simp at*;omega);rw[←g3]at ih';rw[List.length_cons]at g1⊢;generalize hL:(p::R).reverse++x::Q=L at*;have d4:R.length<L.length:=by rw[hll];omega
  have d5:R.length+1<L.length:=by rw[hll];omega
  have g4:((L.map intV).set (R.length+1) (.int .i64 p))[R.length]? =some (.int .i64 p):=by
   rw[List.getElem?_set_ne (by omega),List.getElem?_map,g2];rfl
  unfold zeb;rw[zx];cases hx:decide (x<p)
  ·have hx':¬x<p:=by simpa using hx
   have e:(jw x (p::R)).reverse++Q=L:=by simp only[jw,if_neg hx'];rw[←hL];simp
   rw[e];unfold zbt;simp -implicitDefEqProofs only[go_sem,simprocAttr,d1,d2,d3,g1,g2,w1,w2,yn3,hx]
  ·have hx':x<p:=by simpa using hx
   have e:(jw x (p::R)).reverse++Q=(jw x R).reverse++p::Q:=by simp only[jw,if_pos hx'];simp
   rw[e,←ih'];unfold zeb;simp -implicitDefEqProofs only[go_sem,simprocAttr,d1,d2,d3,g1,g2,w1,w2,yn3,hx,d4,d5,g4,List.map_set]
theorem yv4(n:Nat)(hn:n<100000):∀(r R:List Int),R.length+r.length=n→0<R.length→zbt (R.reverse++r) n R.length=some (.ret (.tup []),[.cells false true 3 ((zc1 R r).reverse.map intV)],0,[]):=by
 intro r
 induction r with
 |nil=>
  intro R hl _;simp only[List.length_nil,Nat.add_zero]at hl;subst hl;rw[List.append_nil];unfold zbt;rw[zx];have h1:=z8 R.length;simp -implicitDefEqProofs only[go_sem,simprocAttr,h1];rfl
 |cons x r ih=>
  intro R hl hR;rw[List.length_cons]at hl;have hI:=yv3 n R.length (by omega) (by omega) x R r (by simp;omega);have h1:decide ((R.length:Int)<(n:Int))=true:=decide_eq_true (by omega)
  have hh:zbt (R.reverse++x::r) n R.length=zeb (R.reverse++x::r) n R.length R.length:=by
   conv=>lhs;unfold zbt;rw[zx]
   unfold zeb;simp -implicitDefEqProofs only[go_sem,simprocAttr,h1]
  rw[hh,hI];have ih':=ih (jw x R) (by rw[zm2];omega) (by rw[zm2];omega);rw[zm2]at ih';exact ih'
theorem xgn(l:List Int)(hl:l.length<100000)(h0:0<l.length):(zu T).call 234 [.ref 0,.int .i64 0,.int .i64 l.length] [.cells false true 3 (l.map intV)] 0 []=some (.tup [],[.cells false true 3 ((y7 l).map intV)],0,[]):=by
 rw[xcw]
 match l,h0 with
 |x::r,_=>
  have h:=yv4 (x::r).length hl r [x] (by simp;omega) (by simp);unfold zbt at h;simp only[List.reverse_cons,List.reverse_nil,List.nil_append,List.cons_append,List.length_singleton,List.map_cons,intV,List.length_cons,List.length_nil,Nat.zero_add,Int.cast_ofNat_Int]at h;have w:IntKind.i64.wrap ((0:Int)+1)=1:=by rw[wrap64]<;>omega
  have e:y7 (x::r)=(zc1 [x] r).reverse:=rfl;rw[e];simp -implicitDefEqProofs only[go_sem,simprocAttr,wrap64,h,Int.reduceAdd]
theorem xgo(l:List Int)(k:Int)(hl:l.length≤12)(h0:0<l.length):(zu T).call 224 [.ref 0,.int .i64 0,.int .i64 l.length,.int .i64 k] [.cells false true 3 (l.map intV)] 0 []=some (.tup [],[.cells false true 3 ((y7 l).map intV)],0,[]):=by
 rw[xcy];have e:=xgn l (by omega) h0;have w:IntKind.i64.wrap ((l.length:Int)- 0)=(l.length:Int):=by rw[wrap64]<;>omega
 have d:decide ((l.length:Int)≤12)=true:=decide_eq_true (by omega);simp -implicitDefEqProofs only[go_sem,simprocAttr];rw[zx];simp -implicitDefEqProofs only[go_sem,simprocAttr,w,d];rw[zm7 (id:=0) (l':=(y7 l).map intV) xa0.1 ysi rfl rfl _ rfl rfl e];simp -implicitDefEqProofs only[go_sem,simprocAttr]
theorem yxv:(zu T).call 183 [.int .u64 0] [] 0 []=some (.int .i64 0,[],0,[]):=jf (MemoOk.nil T) 100000 (by kernel_rfl)
theorem yxu:(zu T).call 183 [.int .u64 1] [] 0 []=some (.int .i64 1,[],0,[]):=jf (MemoOk.nil T) 100000 (by kernel_rfl)
theorem yxq:(zu T).call 183 [.int .u64 2] [] 0 []=some (.int .i64 2,[],0,[]):=jf (MemoOk.nil T) 100000 (by kernel_rfl)
theorem yxp:(zu T).call 183 [.int .u64 3] [] 0 []=some (.int .i64 2,[],0,[]):=jf (MemoOk.nil T) 100000 (by kernel_rfl)
theorem yxo:(zu T).call 183 [.int .u64 4] [] 0 []=some (.int .i64 3,[],0,[]):=jf (MemoOk.nil T) 100000 (by kernel_rfl)
theorem yxn:(zu T).call 183 [.int .u64 5] [] 0 []=some (.int .i64 3,[],0,[]):=jf (MemoOk.nil T) 100000 (by kernel_rfl)
theorem yxm:(zu T).call 183 [.int .u64 6] [] 0 []=some (.int .i64 3,[],0,[]):=jf (MemoOk.nil T) 100000 (by kernel_rfl)
theorem yxl:(zu T).call 183 [.int .u64 7] [] 0 []=some (.int .i64 3,[],0,[]):=jf (MemoOk.nil T) 100000 (by kernel_rfl)
theorem yxk:(zu T).call 183 [.int .u64 8] [] 0 []=some (.int .i64 4,[],0,[]):=jf (MemoOk.nil T) 100000 (by kernel_rfl)
theorem yxj:(zu T).call 183 [.int .u64 9] [] 0 []=some (.int .i64 4,[],0,[]):=jf (MemoOk.nil T) 100000 (by kernel_rfl)
theorem yxt:(zu T).call 183 [.int .u64 10] [] 0 []=some (.int .i64 4,[],0,[]):=jf (MemoOk.nil T) 100000 (by kernel_rfl)
theorem yxs:(zu T).call 183 [.int .u64 11] [] 0 []=some (.int .i64 4,[],0,[]):=jf (MemoOk.nil T) 100000 (by kernel_rfl)
theorem yxr:(zu T).call 183 [.int .u64 12] [] 0 []=some (.int .i64 4,[],0,[]):=jf (MemoOk.nil T) 100000 (by kernel_rfl)
theorem xgp(n:Nat)(h:n≤12):∃r,(zu T).call 183 [.int .u64 n] [] 0 []=some (.int .i64 r,[],0,[]):=by
 have:n=0∨n=1∨n=2∨n=3∨n=4∨n=5∨n=6∨n=7∨n=8∨n=9∨n=10∨n=11∨n=12:=by omega
 rcases this with rfl|rfl|rfl|rfl|rfl|rfl|rfl|rfl|rfl|rfl|rfl|rfl|rfl
 ·exact⟨0,yxv⟩
 ·exact⟨1,yxu⟩
 ·exact⟨2,yxq⟩
 ·exact⟨2,yxp⟩
 ·exact⟨3,yxo⟩
 ·exact⟨3,yxn⟩
 ·exact⟨3,yxm⟩
 ·exact⟨3,yxl⟩
 ·exact⟨4,yxk⟩
 ·exact⟨4,yxj⟩
 ·exact⟨4,yxt⟩
 ·exact⟨4,yxs⟩
 ·exact⟨4,yxr⟩
theorem xgr(l:List Int)(hl:l.length≤12)(h0:0<l.length):(zu T).call 203 [.ref 0] [.cells false true 3 (l.map intV)] 0 []=some (.tup [],[.cells false true 3 ((y7 l).map intV)],0,[]):=by
 rw[xc6];obtain⟨r,e1⟩:=xgp l.length hl;have e:=xgo l r hl h0
 have w:IntKind.u64.wrap (l.length:Int)=(l.length:Int):=by
  simp only[IntKind.wrap,IntKind.bits,IntKind.signed];have:(2:Int)^64=18446744073709551616:=by decide
  simp;omega
 simp -implicitDefEqProofs only[go_sem,simprocAttr,w,e1];rw[zm7 (id:=0) (l':=(y7 l).map intV) xa1.1 ysj rfl rfl _ rfl rfl e];simp -implicitDefEqProofs only[go_sem,simprocAttr]
def med(l:List Int):Int:=(y7 l).getD ((l.length- 1)/2) 0
theorem xhk(b:Bool)(l:List Int)(hl:l.length≤12)(h0:0<l.length):(zu T).call 171 [.sl b 1 (l.map intV)] [] 0 []=some (.int .i64 (med l),[],0,[]):=by
 rw[xdo];have e:=xgr l hl h0;have d1:decide (0≤(l.length:Int)∧(l.length:Int)≤(l.length:Int)∧(l.length:Int)<(maxRow:Int))=true:=decide_eq_true ⟨by omega,by omega,by unfold maxRow;omega⟩
 have d2:List.take (List.replicate l.length (V.int IntKind.i64 0)).length (List.map intV l)++List.drop (min l.length (List.replicate l.length (V.int IntKind.i64 0)).length) (List.replicate l.length (V.int IntKind.i64 0))=l.map intV:=by
  rw[List.length_replicate,Nat.min_self,List.drop_of_length_le (by simp),List.append_nil,List.take_of_length_le (by simp)]
 simp -implicitDefEqProofs only[go_sem,simprocAttr,d1,d2];rw[zm7 (id:=0) (l':=(y7 l).map intV) xa2.1 ysk rfl rfl _ rfl rfl e];have hp:=(zpa l).length_eq;have w1:IntKind.i64.wrap ((l.length:Int)- 1)=((l.length- 1:Nat):Int):=by rw[wrap64]<;>omega
 have hm:(l.length- 1)/2<(y7 l).length:=by rw[hp];omega
 have g:(y7 l)[(l.length- 1)/2]? =some (med l):=by
  unfold med;rw[List.getD_eq_getElem?_getD,List.getElem?_eq_getElem hm];rfl
 have w2:IntKind.i64.wrap (((l.length- 1:Nat):Int).tdiv 2)=(((l.length- 1)/2:Nat):Int):=by
  rw[show((l.length- 1:Nat):Int).tdiv 2=(((l.length- 1)/2:Nat):Int)from rfl,wrap64]<;>omega
 have d3:decide (0≤(((l.length- 1)/2:Nat):Int)∧(((l.length- 1)/2:Nat):Int)<(l.length:Int))=true:=decide_eq_true (by omega);simp -implicitDefEqProofs only[go_sem,simprocAttr,hp,w1,w2,d3,g]
end Go.Den.FaT
namespace Go.Den.FaT
def qi(l:List Int)(x:Int):Nat:=l.countP fun y=>decide (y<x)
def va(l:List Int)(x:Int):Nat:=l.countP fun y=>decide (y=x)
theorem xfm(l:List Int)(x:Int):qi l x+va l x≤l.length:=by
 unfold qi va
 induction l with
 |nil=>simp
 |cons y l ih=>
  simp only[List.countP_cons,List.length_cons];by_cases h:y<x
  ·have:¬y=x:=by omega
   simp[h,this];omega
  ·by_cases h':y=x<;>simp[h,h']<;>omega
theorem ynk{l:List Int}{x:Int}(h:∀y∈l,y≤x):qi l x+va l x=l.length:=by
 unfold qi va
 induction l with
 |nil=>simp
 |cons y l ih=>
  have ih:=ih fun z hz=>h z (List.mem_cons_of_mem _ hz);have hy:=h y (List.mem_cons_self ..);simp only[List.countP_cons,List.length_cons];by_cases h1:y<x
  ·have:¬y=x:=by omega
   simp[h1,this];omega
  ·have:y=x:=by omega
   simp[this];omega
theorem xfn{l:List Int}{x:Int}(h:∀y∈l,y<x):qi l x=l.length:=by
 unfold qi;rw[List.countP_eq_length];intro y hy;simpa using h y hy
theorem ynl{l:List Int}{x:Int}(h:∀y∈l,x≤y):qi l x=0:=by
 unfold qi;rw[List.countP_eq_zero];intro y hy;have:=h y hy;simp;omega
theorem xfo{l:List Int}{x:Int}(h:∀y∈l,x<y):va l x=0:=by
 unfold va;rw[List.countP_eq_zero];intro y hy;have:=h y hy;simp;omega
theorem yve{s:List Int}(hs:s.Pairwise (· ≤ ·)){m:Nat}(hm:m<s.length)(x:Int):(qi s x≤m∧m<qi s x+va s x)↔x=s[m]:=by
 have e:s=s.take m++s[m]::s.drop (m+1):=by rw[←List.drop_eq_getElem_cons hm,List.take_append_drop]
 generalize hy:s[m]=y at e;generalize hA:s.take m=A at e;generalize hB:s.drop (m+1)=B at e;have hl:A.length=m:=by rw[←hA];simp;omega
 rw[e]at hs;rw[List.pairwise_append,List.pairwise_cons]at hs;obtain⟨_,⟨h1,_⟩,h2⟩:=hs;have hle:∀z∈A,z≤y:=fun z hz=>h2 z hz y (List.mem_cons_self ..);have eL:∀x,qi s x=qi A x+qi (y::B) x:=fun x=>by rw[e];simp[qi,List.countP_append]
 have eE:∀x,va s x=va A x+va (y::B) x:=fun x=>by rw[e];simp[va,List.countP_append]
 constructor
 ·rintro⟨c1,c2⟩
  rw[eL]at c1 c2;rw[eE]at c2;by_cases hlt:x<y
  ·have a1:=ynl (l:=y::B) (x:=x) (fun z hz=>by
    rcases List.mem_cons.1 hz with rfl|hz
    ·omega
    ·have:=h1 z hz;omega)
   have a2:=xfo (l:=y::B) (x:=x) (fun z hz=>by
    rcases List.mem_cons.1 hz with rfl|hz
    ·omega
    ·have:=h1 z hz;omega)
   have a3:=xfm A x;omega
  ·by_cases hgt:y<x
   ·have a1:=xfn (l:=A) (x:=x) (fun z hz=>by have:=hle z hz;omega)
    have a2:1≤qi (y::B) x:=by
     unfold qi;rw[List.countP_cons];simp[hgt]
    omega
   ·omega
 ·rintro rfl
  rw[eL,eE]
  have a1:=ynl (l:=x::B) (x:=x) (fun z hz=>by
   rcases List.mem_cons.1 hz with rfl|hz
   ·omega
   ·exact h1 z hz)
  have a2:=ynk hle
  have a3:1≤va (x::B) x:=by
   unfold va;rw[List.countP_cons];simp
  omega
theorem yvy(b c:Bool)(l m:List Int)(hb:l.length<4611686018427387904)(hm:l.length=m.length):∀i,i≤l.length→(zu T).loop false [.code (.loop zi6),.inBlock 0,.code (.seq zle .ret)] ⟨25,26,0,[(0,.sl b 1 (l.map intV)),(1,.sl c 1 (m.map intV)),(5,.int .i64 i)],[],0,[]⟩=some (.ret (.bool (decide (l.drop i=m.drop i))),[],0,[]):=by
 refine xq l.length ?_ fun i hi ih=> ?_
 ·rw[zx]
  have h1:=z8 l.length;simp -implicitDefEqProofs only[go_sem,simprocAttr,h1];simp[hm]
 ·obtain⟨h1,h2,h3,h4,h5⟩:=zl hi hb
  obtain⟨g1,g2,g3,g4,g5⟩:=zl (l:=m) (i:=i) (by omega) (by omega);rw[zx];cases h6:(l[i] !=m[i])
  ·have h7:l[i]=m[i]:=by simpa using h6
   simp -implicitDefEqProofs only[go_sem,simprocAttr,h1,h2,h3,h4,h6,g1,g2,g3,g4,ih];simp only[h5,g5,List.cons.injEq,h7,true_and,false_and,decide_false]
  ·have h7:¬l[i]=m[i]:=by simpa using h6
   simp -implicitDefEqProofs only[go_sem,simprocAttr,h1,h2,h3,h4,h6,g1,g2,g3,g4];simp only[h5,g5,List.cons.injEq,h7,true_and,false_and,decide_false]
theorem c89(b c:Bool)(l m:List Int)(hb:l.length<4611686018427387904):(zu T).call 25 [.sl b 1 (l.map intV),.sl c 1 (m.map intV)] [] 0 []=some (.bool (decide (l=m)),[],0,[]):=by
 rw[xcs];cases h:((l.length:Int) !=m.length)
 ·have h1:l.length=m.length:=by simp at h;omega
  have h2:=yvy b c l m hb h1 0 (by omega);rw[show((0:Nat):Int)=0 from rfl,List.drop_zero,List.drop_zero]at h2;simp -implicitDefEqProofs only[go_sem,simprocAttr,h,h2]
 ·have h1:¬l.length=m.length:=by simp at h;omega
  simp -implicitDefEqProofs only[go_sem,simprocAttr,h];have:¬l=m:=fun e=>h1 (by rw[e]);simp[this]
def xr(p:Pk):Nat:=(p.v[0]?.getD (false,[])).2.length
def col(p:Pk)(k:Nat):List Int:=p.v.map fun r=>r.2.getD k 0
def qp(p:Pk):List Int:=(List.range (xr p)).map fun k=>med (col p k)
structure Ok (p:Pk):Prop where
 v1:0<p.v.length
 v8:p.v.length≤8
 s1:0<xr p
 s8:xr p≤8
 row:∀r∈p.v,r.2.length=xr p
 en:∀r∈p.v,∀n∈r.2,0≤n∧n≤1000000
 no:0≤p.n∧p.n≤1000000
 cs:jh p.c=0
 c8:p.c.length≤8
 ca:∀c∈p.c,0≤c.c∧c.c<p.v.length∧c.l.length=xr p
 lo:∀c∈p.c,∀x∈c.l,0≤x.1∧x.1≤x.2∧x.2≤1000000
theorem zik{n:Int}(h:yf n=0):0≤n∧n≤1000000:=by
 unfold yf at h;rw[zeh]at h;by_cases h3:n<0∨1000000<n
 ·simp[h3]at h
 ·omega
theorem zif{b:Bool}{e:Int}(h:cond b e 0=0)(he:e≠0):b=false:=by cases b<;>simp_all
theorem yng(l:List Cz):∀(r:List Cz) (i k:Nat) (h:k<r.length),uq l (i+k) r[k]∈vw l i r
 | [],_,_,h=>by cases h
 |m::r,i,0,_=>List.mem_cons_self ..
 |m::r,i,k+1,h=>by
  have:=yng l r (i+1) k (by simpa using h);rw[show i+1+k=i+(k+1) by omega]at this;exact List.mem_cons_of_mem _ this
theorem zg5{p:Pk}(h:vi p=0):Ok p:=by
 unfold vi at h;split at h
 ·rename_i h0
  obtain⟨k1,k2⟩:=zgf h0;have hr0:p.v[0]? =some p.v[0]:=List.getElem?_eq_getElem k1;have hs:xr p=p.v[0].2.length:=by unfold xr;rw[hr0];rfl
  rw[hr0]at h;dsimp only[Option.getD_some]at h;rw[←hs]at h;have q1:=xt.1 (xt.1 h (xj (p.v.map fun r=>ku (xr p) r)) (by simp));have q2:=zik (xt.1 h (yf p.n) (by simp));have q3:=xt.1 h (jh p.c) (by simp);have q4:=xt.1 (xt.1 h (xj (p.c.map fun c=>kq p.v.length (xr p) c)) (by simp))
  have row:∀r∈p.v,r.2.length=xr p∧(0<r.2.length∧r.2.length≤8)∧∀n∈r.2,0≤n∧n≤1000000:=fun r hr=>by
   have a:=xt.1 (q1 _ (List.mem_map.2 ⟨r,hr,rfl⟩));have a1:=zgf (a (yo r.2.length 8) (by simp));have a2:=zif (a (cond ((r.2.length:Int) !=xr p) 2 0) (by simp)) (by decide);have a3:=xt.1 (a (xj (r.2.map fun n=>yf n)) (by simp));refine⟨by simp at a2;omega,a1,fun n hn=>zik (a3 _ (List.mem_map.2 ⟨n,hn,rfl⟩))⟩
  have r0:=row p.v[0] (List.getElem_mem k1)
  have hc8:p.c.length≤8∧xj (vw p.c 0 p.c)=0:=by
   unfold jh at q3;by_cases hl:8<p.c.length
   ·rw[if_pos hl]at q3;cases q3
   ·rw[if_neg hl]at q3;exact⟨by omega,q3⟩
  have cc:∀c∈p.c,ckC c=0:=fun c hc=>by
   obtain⟨k,hk,rfl⟩:=List.mem_iff_getElem.1 hc;have a:=yng p.c p.c 0 k hk;have a:=xt.1 hc8.2 _ a;exact xt.1 a (ckC p.c[k]) (by simp)
  refine⟨k1,k2,by omega,by omega,fun r hr=>(row r hr).1,fun r hr=>(row r hr).2.2,q2,q3,hc8.1,fun c hc=> ?_,fun c hc x hx=> ?_⟩
  ·have a:=xt.1 (q4 _ (List.mem_map.2 ⟨c,hc,rfl⟩))
   have a1:=zif (a (cond (decide ((p.v.length:Int)≤c.c)) 10 0) (by simp)) (by decide);have a2:=zif (a (cond ((c.l.length:Int) !=xr p) 2 0) (by simp)) (by decide);have b:=xt.1 (cc c hc) (wb c.c 0 7) (by simp);rw[zeh]at b;simp at a1 a2;by_cases h3:c.c<0∨7<c.c
   ·simp[h3]at b
   ·omega
  ·have b:=xt.1 (xt.1 (cc c hc) (xj (c.l.map fun x=>ye x)) (by simp)) _ (List.mem_map.2 ⟨x,hx,rfl⟩)
   have b1:=zik (xt.1 b (yf x.1) (by simp));have b2:=zik (xt.1 b (yf x.2) (by simp));have b3:=zif (xt.1 b (cond (decide (x.2<x.1)) 11 0) (by simp)) (by decide);simp at b3;omega
 ·rename_i h0;exact absurd h h0
theorem yn6(r:Bool×List Int)(k:Nat)(hk:k<r.2.length)(hr:r.2.length<1000000):(zu T).call 219 [.sl r.1 1 (r.2.map intV),.pp 1 [.int .i64 k] 0 0] [] 0 []=some (.int .i64 (r.2.getD k 0),[],0,[]):=by
 rw[xc0];obtain⟨h1,h2,h3,h4,h5⟩:=zl hk (by omega);have e:r.2.getD k 0=r.2[k]:=by rw[List.getD_eq_getElem?_getD,h3];rfl
 rw[e];simp -implicitDefEqProofs only[go_sem,simprocAttr,h2,h3]
theorem ywm(k:Nat)(b:Bool)(l:List (Bool×List Int))(hb:l.length<1000000)(hk:∀r∈l,k<r.2.length∧r.2.length<1000000):∀i,i≤l.length→∀o:Option (List (Int)),ki o=i→
  (zu T).loop false [.code (.loop zi9),.inBlock 0,.code (.seq zlh .ret)] ⟨218,22,0,[(1,.fn 219 [.pp 1 [.int .i64 k] 0 0]),(5,uj o 0),(8,.sl b 1 (l.map rwV)),(9,.int .i64 l.length),(10,.int .i64 i)],uv intV o 3,0,[]⟩=
   some (.ret (yp intV 0 1 (j6 o ((l.drop i).map (fun r=>r.2.getD k 0)))),[],0,[]):=by
 refine xq l.length ?_ fun i hi ih o ho=> ?_
 ·intro o ho
  rw[zx];have h1:=z8 l.length;cases o with
  |none=>
   simp -implicitDefEqProofs only[go_sem,simprocAttr,h1];simp[j6,yp]
  |some a=>
   simp -implicitDefEqProofs only[go_sem,simprocAttr,h1];simp[j6,yp]
 ·obtain⟨h1,h2,h3,h4,h5⟩:=zl hi (by omega)
  rw[zx,h5];have ih':=ih (j6 o [((fun r=>r.2.getD k 0) l[i])]) (by rw[yw,ho];rfl);rw[yy]at ih';dsimp only at ih';cases o with
  |none=>
   have h8:=xw (n:=0) (by omega);simp only[v9,qx,qq,List.map_cons,List.map_nil,intV]at ih';simp -implicitDefEqProofs only[go_sem,simprocAttr,h1,h2,h3,h4,ih',h8.2,yn6 l[i] k (hk _ (List.getElem_mem hi)).1 (hk _ (List.getElem_mem hi)).2]
  |some a=>
   have h9:a.length=i:=ho;have h8:=(xw (n:=a.length) (by omega)).1;simp only[v7,qx,qq,List.map_append,List.map_cons,List.map_nil,intV]at ih';simp -implicitDefEqProofs only[go_sem,simprocAttr,h1,h2,h3,h4,ih',h8,yn6 l[i] k (hk _ (List.getElem_mem hi)).1 (hk _ (List.getElem_mem hi)).2]
theorem xhj(k:Nat)(b:Bool)(l:List (Bool×List Int))(hb:l.length<1000000)(hk:∀r∈l,k<r.2.length∧r.2.length<1000000):(zu T).call 218 [.sl b 1 (l.map rwV),.fn 219 [.pp 1 [.int .i64 k] 0 0]] [] 0 []=some (yr 1 (((l).map (fun r=>r.2.getD k 0)).map intV),[],0,[]):=by
 rw[xc1];have h:=ywm k b l hb hk 0 (by omega) none rfl;rw[show((0:Nat):Int)=0 from rfl,List.drop_zero,yj]at h;simp only[ji,j0]at h;simp -implicitDefEqProofs only[go_sem,simprocAttr,h]
theorem xhi(p:Pk)(b:Bool)(k:Nat)(ho:Ok p)(hk:k<xr p):(zu T).call 218 [.sl b 1 (p.v.map rwV),.fn 219 [.pp 1 [.int .i64 k] 0 0]] [] 0 []=some (yr 1 ((col p k).map intV),[],0,[]):=
 xhj k b p.v (by have:=ho.v8;omega) (fun r hr=>by have:=ho.row r hr;have:=ho.s8;omega)
theorem zex(p:Pk):(qp p).length=xr p:=by simp[qp]
theorem yvc(p:Pk)(k:Nat)(h:k<(qp p).length):(qp p)[k]=med (col p k):=by simp[qp]
theorem ynj(p:Pk)(k:Nat):(col p k).length=p.v.length:=by simp[col]
def zj9(p:Pk)(o:Option (List Int))(k:Nat):Option Out:=
 (zu T).loop false [.code (.loop zjf),.inBlock 0,.code (.seq zln .ret)]
  ⟨186,23,0,[(1,.ptr 0 0 0),(3,uj o 1),(9,.int .i64 (qp p).length),(10,.int .i64 k)],.cells true true 44 [z5 p]::uv intV o 3,0,[]⟩
theorem yw4(p:Pk)(ho:Ok p):∀k,k≤(qp p).length→∀o,ki o=k→zj9 p o k=some (.ret (yp intV 0 1 (j6 o ((qp p).drop k))),[],0,[]):=by
 have hs8:=ho.s8;have hml:=zex p;refine xq (qp p).length ?_ fun k hk ih o hO=> ?_
 ·intro o hO
  unfold zj9;rw[zx];have h1:=z8 (qp p).length;have h0:(qp p).drop (qp p).length= []:=by simp
  rw[h0,yov];cases o with
  |none=>simp -implicitDefEqProofs only[go_sem,simprocAttr,z5,h1]
  |some a=>simp -implicitDefEqProofs only[go_sem,simprocAttr,z5,h1]
 ·obtain⟨h1,h2,h3,h4,h5⟩:=zl hk (by omega)
  rw[h5];have e1:=xhi p p.vb k ho (by omega);have e2:=xhk (!((col p k).map intV).isEmpty) (col p k) (by rw[ynj];have:=ho.v8;omega) (by rw[ynj];exact ho.v1);rw[←yvc p k hk]at e2;have ih':=ih (j6 o [(qp p)[k]]) (by rw[yw,hO];rfl);rw[yy]at ih';unfold zj9 at ih'⊢;rw[zx];cases o with
  |none=>
   have h8:=xw (n:=0) (by omega);simp only[v9,qx,qq,ji,j0,List.map_cons,List.map_nil,intV,z5]at ih'⊢;simp -implicitDefEqProofs only[go_sem,simprocAttr,h1,h2,h3,h4,e1,e2,ih',h8.2]
  |some a=>
   have h9:a.length=k:=hO;have h8:=(xw (n:=a.length) (by omega)).1;simp only[v7,qx,qq,List.map_append,List.map_cons,List.map_nil,intV,z5]at ih'⊢;simp -implicitDefEqProofs only[go_sem,simprocAttr,h1,h2,h3,h4,e1,e2,ih',h8]
theorem zpf{p:Pk}(ho:Ok p):∃r0,p.v[0]? =some r0∧r0.2.length=(qp p).length∧decide (0<(p.v.length:Int))=true:=by
 have hv:=ho.v1;have hr0:p.v[0]? =some p.v[0]:=List.getElem?_eq_getElem hv;exact⟨p.v[0]'hv,hr0,by rw[zex];unfold xr;rw[hr0];rfl,zh3 hr0⟩
theorem xh3(p:Pk)(ho:Ok p):(zu T).call 186 [z5 p] [] 0 []=some (yr 1 ((qp p).map intV),[],0,[]):=by
 rw[xde];have h:=yw4 p ho 0 (by omega) none rfl;rw[List.drop_zero,yj]at h;unfold zj9 at h;obtain⟨r0,g1,g2,g3⟩:=zpf ho;simp only[ji,j0,show((0:Nat):Int)=0 from rfl,z5]at h;simp -implicitDefEqProofs only[go_sem,simprocAttr,z5,g1,g2,g3,h]
def k9(m l:List Int):List Int:=List.zipWith (fun a b=>IntKind.i64.wrap (a- b)) m l
theorem zpp(m l:List Int)(h:l.length=m.length):(k9 m l).length=l.length:=by simp[k9,h]
theorem yr0(m l:List Int)(i:Nat)(h1:i<l.length)(h2:i<m.length):(k9 m l).drop i=IntKind.i64.wrap (m[i]- l[i])::(k9 m l).drop (i+1):=by
 rw[List.drop_eq_getElem_cons (by simp[k9];omega)];simp[k9]
theorem ywk(b mb:Bool)(m l:List Int)(hb:l.length<1000000)(hm:l.length=m.length):∀i,i≤l.length→∀o:Option (List Int),ki o=i→
  (zu T).loop false [.code (.loop zjd),.inBlock 0,.code (.seq zll .ret)] ⟨188,25,0,[(1,.pp 1 [.sl mb 1 (m.map intV)] 0 0),(4,uj o 0),(7,.sl b 1 (l.map intV)),(8,.int .i64 l.length),(9,.int .i64 i)],uv intV o 3,0,[]⟩=
   some (.ret (yp intV 0 1 (j6 o ((k9 m l).drop i))),[],0,[]):=by
 refine xq l.length ?_ fun i hi ih o ho=> ?_
 ·intro o ho
  rw[zx];have h1:=z8 l.length;have h0:(k9 m l).drop l.length= []:=by rw[←zpp m l hm];simp
  rw[h0,yov];cases o with
  |none=>
   simp -implicitDefEqProofs only[go_sem,simprocAttr,h1]
  |some a=>
   simp -implicitDefEqProofs only[go_sem,simprocAttr,h1]
 ·obtain⟨h1,h2,h3,h4,h5⟩:=zl hi (by omega)
  obtain⟨g1,g2,g3,g4,g5⟩:=zl (l:=m) (i:=i) (by omega) (by omega);rw[zx,yr0 m l i hi (by omega)];have ih':=ih (j6 o [IntKind.i64.wrap (m[i]- l[i])]) (by rw[yw,ho];rfl);rw[yy]at ih';cases o with
  |none=>
   have h8:=xw (n:=0) (by omega);simp only[v9,qx,qq,List.map_cons,List.map_nil,intV]at ih';simp -implicitDefEqProofs only[go_sem,simprocAttr,h1,h2,h3,h4,g2,g3,ih',h8.2]
  |some a=>
   have h9:a.length=i:=ho;have h8:=(xw (n:=a.length) (by omega)).1;simp only[v7,qx,qq,List.map_append,List.map_cons,List.map_nil,intV]at ih';simp -implicitDefEqProofs only[go_sem,simprocAttr,h1,h2,h3,h4,g2,g3,ih',h8]
theorem yn5(r:Bool×List Int)(mb:Bool)(m:List Int)(hr:r.2.length<1000000∧r.2.length=m.length):(zu T).call 188 [.sl r.1 1 (r.2.map intV),.pp 1 [.sl mb 1 (m.map intV)] 0 0] [] 0 []=some (yr 1 ((k9 m r.2).map intV),[],0,[]):=by
 rw[xdc];have h:=ywk r.1 mb m r.2 hr.1 hr.2 0 (by omega) none rfl;rw[show((0:Nat):Int)=0 from rfl,List.drop_zero,yj]at h;simp only[ji,j0]at h;simp -implicitDefEqProofs only[go_sem,simprocAttr,h]
def rsR(m:List Int)(r:Bool×List Int):Bool×List Int:=(!((k9 m r.2).map intV).isEmpty,k9 m r.2)
theorem ywl(mb:Bool)(m:List Int)(b:Bool)(l:List (Bool×List Int))(hb:l.length<1000000)(hk:∀r∈l,r.2.length<1000000∧r.2.length=m.length):∀i,i≤l.length→∀o:Option (List (Bool×List Int)),ki o=i→
  (zu T).loop false [.code (.loop zje),.inBlock 0,.code (.seq zlm .ret)] ⟨187,22,0,[(1,.fn 188 [.pp 1 [.sl mb 1 (m.map intV)] 0 0]),(5,uj o 0),(8,.sl b 1 (l.map rwV)),(9,.int .i64 l.length),(10,.int .i64 i)],uv rwV o 35,0,[]⟩=
   some (.ret (yp rwV 0 1 (j6 o ((l.drop i).map (fun r=>rsR m r)))),[],0,[]):=by
 refine xq l.length ?_ fun i hi ih o ho=> ?_
 ·intro o ho
  rw[zx];have h1:=z8 l.length;cases o with
  |none=>
   simp -implicitDefEqProofs only[go_sem,simprocAttr,h1];simp[j6,yp]
  |some a=>
   simp -implicitDefEqProofs only[go_sem,simprocAttr,h1];simp[j6,yp]
 ·obtain⟨h1,h2,h3,h4,h5⟩:=zl hi (by omega)
  rw[zx,h5];have ih':=ih (j6 o [((fun r=>rsR m r) l[i])]) (by rw[yw,ho];rfl);rw[yy]at ih';dsimp only at ih';cases o with
  |none=>
   have h8:=xw (n:=0) (by omega);simp only[v9,qx,qq,List.map_cons,List.map_nil,rwV,rsR]at ih';simp -implicitDefEqProofs only[go_sem,simprocAttr,h1,h2,h3,h4,ih',h8.2,rsR,yn5 l[i] mb m (hk _ (List.getElem_mem hi))]
  |some a=>
   have h9:a.length=i:=ho;have h8:=(xw (n:=a.length) (by omega)).1;simp only[v7,qx,qq,List.map_append,List.map_cons,List.map_nil,rwV,rsR]at ih';simp -implicitDefEqProofs only[go_sem,simprocAttr,h1,h2,h3,h4,ih',h8,rsR,yn5 l[i] mb m (hk _ (List.getElem_mem hi))]
theorem xhh(mb:Bool)(m:List Int)(b:Bool)(l:List (Bool×List Int))(hb:l.length<1000000)(hk:∀r∈l,r.2.length<1000000∧r.2.length=m.length):(zu T).call 187 [.sl b 1 (l.map rwV),.fn 188 [.pp 1 [.sl mb 1 (m.map intV)] 0 0]] [] 0 []=some (yr 1 (((l).map (fun r=>rsR m r)).map rwV),[],0,[]):=by
 rw[xdd];have h:=ywl mb m b l hb hk 0 (by omega) none rfl;rw[show((0:Nat):Int)=0 from rfl,List.drop_zero,yj]at h;simp only[ji,j0]at h;simp -implicitDefEqProofs only[go_sem,simprocAttr,h]
def jq(p:Pk):List (Bool×List Int):=p.v.map fun r=>rsR (qp p) r
theorem zmj{p:Pk}(ho:Ok p):∀r∈p.v,r.2.length<1000000∧r.2.length=(qp p).length:=fun r hr=>by
 have:=ho.row r hr;have:=ho.s8;rw[zex];omega
theorem xh2(p:Pk)(ho:Ok p):(zu T).call 145 [z5 p] [] 0 []=some (.sl (!((jq p).map rwV).isEmpty) 1 ((jq p).map rwV),[],0,[]):=by
 rw[xdx];have e1:=xh3 p ho;have e2:=xhh (!((qp p).map intV).isEmpty) (qp p) p.vb p.v (by have:=ho.v8;omega) (zmj ho);rw[show List.map (fun r=>rsR (qp p) r) p.v=jq p from rfl]at e2;simp only[z5]at e1;simp -implicitDefEqProofs only[go_sem,simprocAttr,z5,e1,e2]
def ptV(x:Int×Int):V:= .agg [.int .i64 x.1,.int .i64 x.2]
attribute [go_sem] ptV
def z0(s:Nat):List (Int×Int):=List.replicate s (0,0)
theorem ysl(s:Nat):List.replicate s (V.agg [.int .i64 0,.int .i64 0])=(z0 s).map j5:=by
 unfold z0;rw[List.map_replicate];rfl
theorem zbq(r:Bool×List Int)(hr:r.2.length<1000):(zu T).call 190 [.sl r.1 1 (r.2.map intV)] [] 0 []=some (.ref 0,[.cells false true 56 ((z0 r.2.length).map j5)],0,[]):=by
 rw[xda];have d1:decide (0≤(r.2.length:Int)∧(r.2.length:Int)≤(r.2.length:Int)∧(r.2.length:Int)<(maxRow:Int))=true:=decide_eq_true ⟨by omega,by omega,by unfold maxRow;omega⟩;simp -implicitDefEqProofs only[go_sem,simprocAttr,d1,ysl]
theorem yb(n:Nat)(h:n<10):decide (n+1<maxRow)=true:=(xw (by omega)).1
theorem xhe(b:Bool)(r1:Bool×List Int)(hr1:r1.2.length<1000):(zu T).call 189 [.sl b 1 [.sl r1.1 1 (r1.2.map intV)],.fn 190 []] [] 0 []=some (.ref 0,[.cells false false 52 [.ref 1],.cells false true 56 ((z0 r1.2.length).map j5)],0,[]):=by
 rw[zbo];simp -implicitDefEqProofs only[go_sem,simprocAttr]
 iterate 1
  rw[zx];simp -implicitDefEqProofs only[go_sem,simprocAttr,zbq,hr1,(xw (n:=0) (by omega)).2,wrap64,Int.reduceAdd]
 rw[zx];simp -implicitDefEqProofs only[go_sem,simprocAttr]
theorem xhd(b:Bool)(r1 r2:Bool×List Int)(hr1:r1.2.length<1000)(hr2:r2.2.length<1000):(zu T).call 189 [.sl b 1 [.sl r1.1 1 (r1.2.map intV),.sl r2.1 1 (r2.2.map intV)],.fn 190 []] [] 0 []=some (.ref 0,[.cells false false 52 [.ref 1,.ref 2],.cells false true 56 ((z0 r1.2.length).map j5),.cells false true 56 ((z0 r2.2.length).map j5)],0,[]):=by
 rw[zbo];simp -implicitDefEqProofs only[go_sem,simprocAttr]
 iterate 2
  rw[zx];simp -implicitDefEqProofs only[go_sem,simprocAttr,zbq,hr1,hr2,(xw (n:=0) (by omega)).2,yb 1 (by omega),wrap64,Int.reduceAdd]
 rw[zx];simp -implicitDefEqProofs only[go_sem,simprocAttr]
theorem xhc(b:Bool)(r1 r2 r3:Bool×List Int)(hr1:r1.2.length<1000)(hr2:r2.2.length<1000)(hr3:r3.2.length<1000):(zu T).call 189 [.sl b 1 [.sl r1.1 1 (r1.2.map intV),.sl r2.1 1 (r2.2.map intV),.sl r3.1 1 (r3.2.map intV)],.fn 190 []] [] 0 []=some (.ref 0,[.cells false false 52 [.ref 1,.ref 2,.ref 3],.cells false true 56 ((z0 r1.2.length).map j5),.cells false true 56 ((z0 r2.2.length).map j5),.cells false true 56 ((z0 r3.2.length).map j5)],0,[]):=by
 rw[zbo];simp -implicitDefEqProofs only[go_sem,simprocAttr]
 iterate 3
  rw[zx];simp -implicitDefEqProofs only[go_sem,simprocAttr,zbq,hr1,hr2,hr3,(xw (n:=0) (by omega)).2,yb 1 (by omega),yb 2 (by omega),wrap64,Int.reduceAdd]
 rw[zx];simp -implicitDefEqProofs only[go_sem,simprocAttr]
theorem xhb(b:Bool)(r1 r2 r3 r4:Bool×List Int)(hr1:r1.2.length<1000)(hr2:r2.2.length<1000)(hr3:r3.2.length<1000)(hr4:r4.2.length<1000):(zu T).call 189 [.sl b 1 [.sl r1.1 1 (r1.2.map intV),.sl r2.1 1 (r2.2.map intV),.sl r3.1 1 (r3.2.map intV),.sl r4.1 1 (r4.2.map intV)],.fn 190 []] [] 0 []=some (.ref 0,[.cells false false 52 [.ref 1,.ref 2,.ref 3,.ref 4],.cells false true 56 ((z0 r1.2.length).map j5),.cells false true 56 ((z0 r2.2.length).map j5),.cells false true 56 ((z0 r3.2.length).map j5),.cells false true 56 ((z0 r4.2.length).map j5)],0,[]):=by
 rw[zbo];simp -implicitDefEqProofs only[go_sem,simprocAttr]
 iterate 4
  rw[zx];simp -implicitDefEqProofs only[go_sem,simprocAttr,zbq,hr1,hr2,hr3,hr4,(xw (n:=0) (by omega)).2,yb 1 (by omega),yb 2 (by omega),yb 3 (by omega),wrap64,Int.reduceAdd]
 rw[zx];simp -implicitDefEqProofs only[go_sem,simprocAttr]
theorem xha(b:Bool)(r1 r2 r3 r4 r5:Bool×List Int)(hr1:r1.2.length<1000)(hr2:r2.2.length<1000)(hr3:r3.2.length<1000)(hr4:r4.2.length<1000)(hr5:r5.2.length<1000):(zu T).call 189 [.sl b 1 [.sl r1.1 1 (r1.2.map intV),.sl r2.1 1 (r2.2.map intV),.sl r3.1 1 (r3.2.map intV),.sl r4.1 1 (r4.2.map intV),.sl r5.1 1 (r5.2.map intV)],.fn 190 []] [] 0 []=some (.ref 0,[.cells false false 52 [.ref 1,.ref 2,.ref 3,.ref 4,.ref 5],.cells false true 56 ((z0 r1.2.length).map j5),.cells false true 56 ((z0 r2.2.length).map j5),.cells false true 56 ((z0 r3.2.length).map j5),.cells false true 56 ((z0 r4.2.length).map j5),.cells false true 56 ((z0 r5.2.length).map j5)],0,[]):=by
 rw[zbo];simp -implicitDefEqProofs only[go_sem,simprocAttr]
 iterate 5
  rw[zx];simp -implicitDefEqProofs only[go_sem,simprocAttr,zbq,hr1,hr2,hr3,hr4,hr5,(xw (n:=0) (by omega)).2,yb 1 (by omega),yb 2 (by omega),yb 3 (by omega),yb 4 (by omega),wrap64,Int.reduceAdd]
 rw[zx];simp -implicitDefEqProofs only[go_sem,simprocAttr]
theorem xg9(b:Bool)(r1 r2 r3 r4 r5 r6:Bool×List Int)(hr1:r1.2.length<1000)(hr2:r2.2.length<1000)(hr3:r3.2.length<1000)(hr4:r4.2.length<1000)(hr5:r5.2.length<1000)(hr6:r6.2.length<1000):(zu T).call 189 [.sl b 1 [.sl r1.1 1 (r1.2.map intV),.sl r2.1 1 (r2.2.map intV),.sl r3.1 1 (r3.2.map intV),.sl r4.1 1 (r4.2.map intV),.sl r5.1 1 (r5.2.map intV),.sl r6.1 1 (r6.2.map intV)],.fn 190 []] [] 0 []=some (.ref 0,[.cells false false 52 [.ref 1,.ref 2,.ref 3,.ref 4,.ref 5,.ref 6],.cells false true 56 ((z0 r1.2.length).map j5),.cells false true 56 ((z0 r2.2.length).map j5),.cells false true 56 ((z0 r3.2.length).map j5),.cells false true 56 ((z0 r4.2.length).map j5),.cells false true 56 ((z0 r5.2.length).map j5),.cells false true 56 ((z0 r6.2.length).map j5)],0,[]):=by
 rw[zbo];simp -implicitDefEqProofs only[go_sem,simprocAttr]
 iterate 6
  rw[zx];simp -implicitDefEqProofs only[go_sem,simprocAttr,zbq,hr1,hr2,hr3,hr4,hr5,hr6,(xw (n:=0) (by omega)).2,yb 1 (by omega),yb 2 (by omega),yb 3 (by omega),yb 4 (by omega),yb 5 (by omega),wrap64,Int.reduceAdd]
 rw[zx];simp -implicitDefEqProofs only[go_sem,simprocAttr]
theorem xg8(b:Bool)(r1 r2 r3 r4 r5 r6 r7:Bool×List Int)(hr1:r1.2.length<1000)(hr2:r2.2.length<1000)(hr3:r3.2.length<1000)(hr4:r4.2.length<1000)(hr5:r5.2.length<1000)(hr6:r6.2.length<1000)(hr7:r7.2.length<1000):(zu T).call 189 [.sl b 1 [.sl r1.1 1 (r1.2.map intV),.sl r2.1 1 (r2.2.map intV),.sl r3.1 1 (r3.2.map intV),.sl r4.1 1 (r4.2.map intV),.sl r5.1 1 (r5.2.map intV),.sl r6.1 1 (r6.2.map intV),.sl r7.1 1 (r7.2.map intV)],.fn 190 []] [] 0 []=some (.ref 0,[.cells false false 52 [.ref 1,.ref 2,.ref 3,.ref 4,.ref 5,.ref 6,.ref 7],.cells false true 56 ((z0 r1.2.length).map j5),.cells false true 56 ((z0 r2.2.length).map j5),.cells false true 56 ((z0 r3.2.length).map j5),.cells false true 56 ((z0 r4.2.length).map j5),.cells false true 56 ((z0 r5.2.length).map j5),.cells false true 56 ((z0 r6.2.length).map j5),.cells false true 56 ((z0 r7.2.length).map j5)],0,[]):=by
 rw[zbo];simp -implicitDefEqProofs only[go_sem,simprocAttr]
 iterate 7
  rw[zx];simp -implicitDefEqProofs only[go_sem,simprocAttr,zbq,hr1,hr2,hr3,hr4,hr5,hr6,hr7,(xw (n:=0) (by omega)).2,yb 1 (by omega),yb 2 (by omega),yb 3 (by omega),yb 4 (by omega),yb 5 (by omega),yb 6 (by omega),wrap64,Int.reduceAdd]
 rw[zx];simp -implicitDefEqProofs only[go_sem,simprocAttr]
theorem xg7(b:Bool)(r1 r2 r3 r4 r5 r6 r7 r8:Bool×List Int)(hr1:r1.2.length<1000)(hr2:r2.2.length<1000)(hr3:r3.2.length<1000)(hr4:r4.2.length<1000)(hr5:r5.2.length<1000)(hr6:r6.2.length<1000)(hr7:r7.2.length<1000)(hr8:r8.2.length<1000):(zu T).call 189 [.sl b 1 [.sl r1.1 1 (r1.2.map intV),.sl r2.1 1 (r2.2.map intV),.sl r3.1 1 (r3.2.map intV),.sl r4.1 1 (r4.2.map intV),.sl r5.1 1 (r5.2.map intV),.sl r6.1 1 (r6.2.map intV),.sl r7.1 1 (r7.2.map intV),.sl r8.1 1 (r8.2.map intV)],.fn 190 []] [] 0 []=some (.ref 0,[.cells false false 52 [.ref 1,.ref 2,.ref 3,.ref 4,.ref 5,.ref 6,.ref 7,.ref 8],.cells false true 56 ((z0 r1.2.length).map j5),.cells false true 56 ((z0 r2.2.length).map j5),.cells false true 56 ((z0 r3.2.length).map j5),.cells false true 56 ((z0 r4.2.length).map j5),.cells false true 56 ((z0 r5.2.length).map j5),.cells false true 56 ((z0 r6.2.length).map j5),.cells false true 56 ((z0 r7.2.length).map j5),.cells false true 56 ((z0 r8.2.length).map j5)],0,[]):=by
 rw[zbo];simp -implicitDefEqProofs only[go_sem,simprocAttr]
 iterate 8
  rw[zx];simp -implicitDefEqProofs only[go_sem,simprocAttr,zbq,hr1,hr2,hr3,hr4,hr5,hr6,hr7,hr8,(xw (n:=0) (by omega)).2,yb 1 (by omega),yb 2 (by omega),yb 3 (by omega),yb 4 (by omega),yb 5 (by omega),yb 6 (by omega),yb 7 (by omega),wrap64,Int.reduceAdd]
 rw[zx];simp -implicitDefEqProofs only[go_sem,simprocAttr]
def qd(a b:Int×Int):Int×Int:=(IntKind.i64.wrap (a.1+b.1),IntKind.i64.wrap (a.2+b.2))
def kc(n:Nat):List V:=(List.range n).map fun k=> .ref (k+2)
def xu(p:Pk)(R:List (List (Int×Int)))(sb:Bool)(z:Nat)(st:List Int)(t:Nat)(c:Cz)(k:Nat):Option Out:=
 (zu T).loop false [.code (.loop zjp),.inBlock 2,.inBlock 1,.code zlw,.inLoop zf0,.inBlock 0,.code (.seq zgx .ret)]
  ⟨146,64,0,[(2,.ptr 0 0 0),(5,.ref 1),(8,.ptr (R.length+2) 0 0),(14,.sl sb z (st.map intV)),(15,.int .i64 st.length),(16,.int .i64 t),(26,.sl c.b 2 (c.l.map j5)),(27,.int .i64 c.l.length),(28,.int .i64 k)],
   .cells true true 44 [z5 p]:: .cells false false 52 (kc R.length)::(R.map (fun l=> .cells false true 56 (l.map j5))++ [.cells true true 141 [czV c]]),0,[]⟩
theorem um(b:Bool)(e:Int):(zu T).call 75 [.bool b,.int .i64 e] [] 0 []=some (.int .i64 (cond b e 0),[],0,[]):=by
 rw[xbz];cases b
 ·simp -implicitDefEqProofs only[go_sem,simprocAttr]
 ·simp -implicitDefEqProofs only[go_sem,simprocAttr]
theorem zfa(n a b:Int):(zu T).call 136 [.int .i64 n,.int .i64 a,.int .i64 b] [] 0 []=some (.int .i64 (wb n a b),[],0,[]):=by
 rw[xd4];cases h:decide (n<a)
 ·simp -implicitDefEqProofs only[go_sem,simprocAttr,h,um,wb]
 ·simp -implicitDefEqProofs only[go_sem,simprocAttr,h,um,wb]
theorem yv0(b:Bool)(l:List Int)(hb:l.length<4611686018427387904):∀i,i≤l.length→(zu T).loop false [.code (.loop ziw),.inBlock 0,.code (.seq zk4 .ret)] ⟨71,15,0,[(5,.sl b 1 (l.map fun n=> .int .i64 n)),(6,.int .i64 l.length),(7,.int .i64 i)],[],0,[]⟩=some (.ret (.int .i64 (xj (l.drop i))),[],0,[]):=by
 refine xq l.length ?_ fun i hi ih=> ?_
 ·rw[zx]
  have h1:=z8 l.length;simp -implicitDefEqProofs only[go_sem,simprocAttr,h1];simp[xj]
 ·obtain⟨h1,h2,h3,h4,h5⟩:=zl hi hb
  rw[zx,h5];cases h6:(l[i] !=0)
  ·have h7:l[i]=0:=by simpa using h6
   simp -implicitDefEqProofs only[go_sem,simprocAttr,h1,h2,h3,h4,h6,ih];simp[xj,h7]
  ·have h7:l[i]≠0:=by simpa using h6
   simp -implicitDefEqProofs only[go_sem,simprocAttr,h1,h2,h3,h4,h6];simp[xj,h7]
theorem g71(b:Bool)(l:List Int)(hb:l.length<4611686018427387904):(zu T).call 71 [.sl b 1 (l.map fun n=> .int .i64 n)] [] 0 []=some (.int .i64 (xj l),[],0,[]):=by
 rw[xb3];have h:=yv0 b l hb 0 (by omega);rw[show((0:Nat):Int)=0 from rfl,List.drop_zero]at h;simp -implicitDefEqProofs only[go_sem,simprocAttr,h]
theorem znb(b:Bool)(x y:Int):(zu T).call 71 [.sl b 1 [.int .i64 x,.int .i64 y]] [] 0 []=some (.int .i64 (xj [x,y]),[],0,[]):=g71 b [x,y] (by simp)
theorem zna(b:Bool)(x y z:Int):(zu T).call 71 [.sl b 1 [.int .i64 x,.int .i64 y,.int .i64 z]] [] 0 []=some (.int .i64 (xj [x,y,z]),[],0,[]):=g71 b [x,y,z] (by simp)
theorem g72(n:Int):(zu T).call 72 [.int .i64 n] [] 0 []=some (.int .i64 (wb n 0 800),[],0,[]):=by
 rw[xb2];simp -implicitDefEqProofs only[go_sem,simprocAttr,zfa]
theorem g73(n m:Int)(h:1≤n∧n≤m):(zu T).call 73 [.int .i64 n,.int .i64 m] [] 0 []=some (.int .i64 0,[],0,[]):=by
 have h1:(n==0)=false:=by simp;omega
 have h2:decide (n>m)=false:=decide_eq_false (by omega);have f0:xj [0,0]=0:=rfl;rw[xb1];simp -implicitDefEqProofs only[go_sem,simprocAttr,um,znb,h1,h2,f0,cond_false]
structure tbOk (t:List (Int×Int)):Prop where
 l2:2≤t.length
 l8:t.length≤8
 x0:∀p,t[0]? =some p→p.1=0
 r:∀p∈t,(0≤p.1∧p.1≤100)∧0≤p.2∧p.2≤200
 s:∀i (h:i+1<t.length),t[i].1<t[i+1].1∧t[i+1].2≤t[i].2
 z:∀p,t[t.length- 1]? =some p→p.2=0
theorem zda{n a b:Int}(h:a≤n∧n≤b):wb n a b=0:=by rw[zeh,if_neg (by omega)]
def zai(t:List (Int×Int))(i:Nat):Int×Int:=match i with
 |0=>(-1,200)
 |i+1=>t.getD i (0,0)
theorem ywc(b:Bool)(t:List (Int×Int))(h:tbOk t):∀i,i≤t.length→
  (zu T).loop false [.code (.loop zja),.inBlock 0,.code (.seq zli .ret)] ⟨205,70,0,[(4,.ptr 0 0 0),(22,.sl b 2 (t.map ptV)),(23,.int .i64 t.length),(24,.int .i64 i)],[.cells true true 76 [ptV (zai t i)]],0,[]⟩=some (.ret (.int .i64 0),[],0,[]):=by
 have hl2:=h.l2;have hl8:=h.l8;refine xq t.length ?_ fun i hi ih=> ?_
 ·rw[zx]
  have h1:=z8 t.length
  have hz:(zai t t.length).2=0:=by
   have e:t.length=(t.length- 1)+1:=by omega
   rw[e];show(t.getD (t.length- 1) (0,0)).2=0;have hlt:t.length- 1<t.length:=by omega
   rw[List.getD_eq_getElem?_getD,List.getElem?_eq_getElem hlt];exact h.z _ (List.getElem?_eq_getElem hlt)
  have hz2:((zai t t.length).2 !=0)=false:=by rw[hz];rfl
  simp -implicitDefEqProofs only[go_sem,simprocAttr,h1,ptV,hz2,um,cond_false]
 ·obtain⟨h1,h2,h3,h4,h5⟩:=zl hi (by omega)
  have hr:=h.r _ (List.getElem_mem hi);have r1:=zda hr.1;have r2:=zda hr.2;have f0:xj [0,0,0]=0:=rfl
  have hb1:(zai t i).1<t[i].1∧t[i].2≤(zai t i).2:=by
   cases i with
   |zero=>exact⟨by show(-1:Int)<_;omega,hr.2.2⟩
   |succ i=>
    have hs:=h.s i hi;show(t.getD i (0,0)).1<_∧_≤(t.getD i (0,0)).2;rw[List.getD_eq_getElem?_getD,List.getElem?_eq_getElem (by omega)];exact hs
  have d1:decide (t[i].1≤(zai t i).1)=false:=decide_eq_false (by omega);have d2:decide (t[i].2>(zai t i).2)=false:=decide_eq_false (by omega)
  have hb2:zai t (i+1)=t[i]:=by
   show t.getD i (0,0)=_;rw[List.getD_eq_getElem?_getD,List.getElem?_eq_getElem hi];rfl
  rw[hb2]at ih;simp only[ptV]at ih⊢;rw[zx];cases i with
  |zero=>
   have hx:t[0].1=0:=h.x0 _ (List.getElem?_eq_getElem hi);have r0:wb 0 0 100=0:=rfl;have w1:IntKind.i64.wrap 1=1:=rfl;have b0:zai t 0=(-1,200):=rfl;have q1:decide (0<(t.length:Int))=true:=decide_eq_true (by omega);have q2:decide ((0:Int)≤0∧0<(t.length:Int))=true:=decide_eq_true (by omega);have q3:decide ((0:Int)≤ -1)=false:=rfl;have q4:decide (t[0].2>200)=false:=decide_eq_false (by omega);have q5:decide (200<t[0].2)=false:=decide_eq_false (by omega);rw[show((0+1:Nat):Int)=1 from rfl,hx]at ih;simp -implicitDefEqProofs only[go_sem,simprocAttr,h1,h2,h3,h4,ptV,zfa,um,zna,r0,r2,f0,b0,q1,q2,q3,q4,q5,w1,hx,ih,cond_false]
  |succ i=>
   have z1:(((i+1:Nat):Int)==0)=false:=by simp;omega
   simp -implicitDefEqProofs only[go_sem,simprocAttr,z1,h1,h2,h3,h4,ptV,zfa,um,zna,r1,r2,f0,d1,d2,ih,cond_false]
theorem yz6(b:Bool)(t:List (Int×Int))(h:tbOk t):(zu T).call 205 [.sl b 2 (t.map ptV)] [] 0 []=some (.int .i64 0,[],0,[]):=by
 have e:=ywc b t h 0 (by omega);have hl2:=h.l2;have hl8:=h.l8;have h1:decide ((t.length:Int)<2)=false:=decide_eq_false (by omega);have h2:decide ((t.length:Int)>8)=false:=decide_eq_false (by omega);have f0:xj [0,0]=0:=rfl;rw[show((0:Nat):Int)=0 from rfl,show zai t 0=(-1,200)from rfl]at e;simp only[ptV]at e;rw[xc5];simp -implicitDefEqProofs only[go_sem,simprocAttr,h1,h2,f0,um,znb,cond_false,e]
def z7(t:List (Int×Int)):Int:=(t.getD (t.length- 1) (0,0)).1
theorem yma(b:Bool)(t:List (Int×Int))(h:tbOk t):(zu T).call 206 [.sl b 2 (t.map ptV)] [] 0 []=some (.int .i64 (z7 t),[],0,[]):=by
 have hl2:=h.l2;have hl8:=h.l8;have w1:IntKind.i64.wrap ((t.length:Int)- 1)=((t.length- 1:Nat):Int):=by rw[wrap64 (by omega) (by omega)];omega
 have q:t[t.length- 1]? =some (t.getD (t.length- 1) (0,0)):=by rw[List.getD_eq_getElem?_getD,List.getElem?_eq_getElem (by omega)];rfl
 have d1:decide (0≤((t.length- 1:Nat):Int)∧((t.length- 1:Nat):Int)<(t.length:Int))=true:=decide_eq_true (by omega);rw[xc4];unfold z7;simp -implicitDefEqProofs only[go_sem,simprocAttr,w1,q,d1,ptV]
theorem zbj{t:List (Int×Int)}(h:tbOk t):1≤z7 t∧z7 t≤100:=by
 have hl2:=h.l2;have q:t[t.length- 1]? =some (t.getD (t.length- 1) (0,0)):=by rw[List.getD_eq_getElem?_getD,List.getElem?_eq_getElem (by omega)];rfl
 have hm:=List.mem_of_getElem? q;have hr:=(h.r _ hm).1;have hs:=h.s (t.length- 2) (by omega);have h0:=(h.r _ (List.getElem_mem (show t.length- 2<t.length by omega))).1;have e:t.length- 2+1=t.length- 1:=by omega
 unfold z7;rw[List.getD_eq_getElem?_getD,List.getElem?_eq_getElem (by omega)]at hr⊢;simp only[e]at hs;simp only[Option.getD_some]at hr⊢;omega
def qh(t:List (Int×Int))(light drop:Int):V:= .agg [.sl true 2 (t.map ptV),.int .i64 light,.int .i64 drop]
theorem ymb(t:List (Int×Int))(h:tbOk t)(light drop:Int)(hl:0≤light∧light≤1000)(hd:0≤drop∧drop≤10):(zu T).call 179 [qh t light drop] [] 0 []=some (.int .i64 0,[],0,[]):=by
 have r1:=zda hl;have r2:=zda hd;have f0:xj [0,0,0]=0:=rfl;rw[xdk];simp -implicitDefEqProofs only[go_sem,simprocAttr,qh,yz6 true t h,zfa,r1,r2,zna,f0]
end Go.Den.FaT
namespace Go.Den.FaT
open Go Go.Proofs Go.Den
def j4(t:List (Int×Int))(drop:Int)(ls:List Int):V:= .sl true 3 (ls.map fun l=>qh t l drop)
structure chOk (t:List (Int×Int)) (drop:Int) (ls:List Int):Prop where
 t:tbOk t
 d:0≤drop∧drop≤10
 l1:1≤ls.length
 l3:ls.length≤3
 l:∀x∈ls,0≤x∧x≤1000
variable {t:List (Int×Int)} {drop:Int} {ls:List Int} (h:chOk t drop ls)
include h
theorem ywn:∀i,i≤ls.length→0<i→
  (zu T).loop false [.code (.loop zjj),.inBlock 0,.code (.seq zlq .ret)] ⟨178,22,0,[(1,.fn 179 []),(5,.ref 0),(8,j4 t drop ls),(9,.int .i64 ls.length),(10,.int .i64 i)],[.cells false true 39 (List.replicate i (.int .i64 0))],0,[]⟩=some (.ret (.sl true 1 (List.replicate ls.length (.int .i64 0))),[],0,[]):=by
 have hl3:=h.l3;refine xq ls.length ?_ fun i hi ih=> ?_
 ·intro h0
  rw[zx];have h1:=z8 ls.length;simp -implicitDefEqProofs only[go_sem,simprocAttr,h1,j4]
 ·intro h0
  obtain⟨h1,h2,h3,h4,h5⟩:=zl hi (by omega);have e:=ymb t h.t ls[i] drop (h.l _ (List.getElem_mem hi)) h.d;have ih:=ih (by omega);have mx:decide (i+1<maxRow)=true:=decide_eq_true (by unfold maxRow;omega);rw[List.replicate_succ']at ih;simp only[qh,j4]at e ih⊢;rw[zx];simp -implicitDefEqProofs only[go_sem,simprocAttr,h1,h2,h3,h4,e,ih,mx,List.length_replicate]
theorem yz9:(zu T).call 178 [j4 t drop ls,.fn 179 []] [] 0 []=some (.sl true 1 (List.replicate ls.length (.int .i64 0)),[],0,[]):=by
 have hl1:=h.l1;have hl3:=h.l3;have e:=ymb t h.t (ls[0]'(by omega)) drop (h.l _ (List.getElem_mem _)) h.d;have ih:=ywn h 1 (by omega) (by omega);have q:ls[0]? =some (ls[0]'(by omega)):=List.getElem?_eq_getElem _;have d1:decide (0<(ls.length:Int))=true:=decide_eq_true (by omega);have d2:decide ((0:Int)≤0∧0<(ls.length:Int))=true:=decide_eq_true (by omega);have mx:decide (1<maxRow)=true:=by decide
 have w1:IntKind.i64.wrap 1=1:=rfl;rw[show((1:Nat):Int)=1 from rfl]at ih;simp only[qh,j4,List.replicate_one]at e ih⊢;rw[xdl];simp -implicitDefEqProofs only[go_sem,simprocAttr];rw[zx];simp -implicitDefEqProofs only[go_sem,simprocAttr,q,d1,d2,e,ih,mx,w1]
theorem xac:(zu T).call 130 [j4 t drop ls] [] 0 []=some (.int .i64 0,[],0,[]):=by
 have hl1:=h.l1;have hl3:=h.l3;have e:=yz9 h;have e2:=g71 true (List.replicate ls.length 0) (by simp;omega)
 have f0:xj (List.replicate ls.length 0)=0:=by
  have:∀n,xj (List.replicate n 0)=0:=fun n=>by induction n with
   |zero=>rfl
   |succ n ih=>rw[List.replicate_succ];simpa[xj]using ih
  exact this _
 rw[List.map_replicate,f0]at e2;have e3:=g73 (ls.length:Int) 8 (by omega);simp only[j4]at e⊢;rw[xd9];simp -implicitDefEqProofs only[go_sem,simprocAttr,e,e2,e3]
def yc(t:List (Int×Int))(drop:Int)(ls:List Int):V:= .sl true 1 [j4 t drop ls]
theorem g68:(zu T).call 68 [yc t drop ls] [] 0 []=some (.int .i64 0,[],0,[]):=by
 have e:=xac h;have f0:xj [0]=0:=rfl;have mx:decide (1<maxRow)=true:=by decide
 have e1:=g71 true [0] (by simp);have e3:=g73 1 6 (by omega);rw[f0]at e1;simp only[List.map_cons,List.map_nil]at e1;have w1:IntKind.i64.wrap 1=1:=rfl;simp only[j4]at e
 have e2:(zu T).call 129 [yc t drop ls,.fn 130 []] [] 0 []=some (.sl true 1 [.int .i64 0],[],0,[]):=by
  rw[xea];simp -implicitDefEqProofs only[go_sem,simprocAttr,yc,j4];rw[zx];simp -implicitDefEqProofs only[go_sem,simprocAttr,e,mx,w1];rw[zx];simp -implicitDefEqProofs only[go_sem,simprocAttr]
 simp only[yc,j4]at e2⊢;rw[xb6];simp -implicitDefEqProofs only[go_sem,simprocAttr,e1,e2,e3]
end Go.Den.FaT
namespace Go.Den.FaT
open Go Go.Proofs Go.Den
def flr(n d:Int):Int:=if n.tdiv d*d>n then n.tdiv d- 1 else n.tdiv d
theorem ymg{n d a b:Int}(hd:0<d∧d≤100)(hn:a*d≤n∧n≤b*d)(ha: -1000000≤a)(hb:b≤1000000):a≤flr n d∧flr n d≤b:=by
 have e:flr n d=n/d:=by
  unfold flr;have h1:n.tdiv d*d+n.tmod d=n:=by rw[Int.mul_comm];exact Int.mul_tdiv_add_tmod n d
  have h2:=Int.mul_ediv_add_emod n d;have h3:=Int.emod_nonneg n (show d≠0 by omega);have h4:=Int.emod_lt_of_pos n hd.1;by_cases hs:0≤n
  ·have h5:n.tdiv d=n/d:=Int.tdiv_eq_ediv_of_nonneg hs
   rw[h5];rw[Int.mul_comm]at h2;rw[if_neg (by omega)]
  ·have h6:n.tmod d= -((-n) %d):=by
    have:=Int.neg_tmod (-n) d;rw[Int.neg_neg]at this;rw[this,Int.tmod_eq_emod_of_nonneg (by omega)]
   have h7:=Int.emod_nonneg (-n) (show d≠0 by omega);have h8:=Int.emod_lt_of_pos (-n) hd.1;generalize hq:n.tdiv d=q at h1⊢;generalize hm:(-n) %d=m at*;generalize hp:n/d=p at*;generalize hr:n %d=r at*;have h9:q*d=n+m:=by omega
   by_cases hm0:m=0
   ·rw[if_neg (by omega)]
    have:(q- p)*d=r:=by rw[Int.sub_mul,h9];rw[Int.mul_comm p d];omega
    rcases Int.lt_trichotomy (q- p) 0 with hlt|heq|hgt
    ·exfalso
     have:(q- p)*d≤ -1*d:=Int.mul_le_mul_of_nonneg_right (by omega) (by omega);omega
    ·omega
    ·exfalso
     have:1*d≤(q- p)*d:=Int.mul_le_mul_of_nonneg_right (by omega) (by omega);omega
   ·rw[if_pos (by omega)]
    have:(q- p)*d=m+r:=by rw[Int.sub_mul,h9];rw[Int.mul_comm p d];omega
    rcases Int.lt_trichotomy (q- p) 1 with hlt|heq|hgt
    ·exfalso
     have:(q- p)*d≤0*d:=Int.mul_le_mul_of_nonneg_right (by omega) (by omega);omega
    ·omega
    ·exfalso
     have:2*d≤(q- p)*d:=Int.mul_le_mul_of_nonneg_right (by omega) (by omega);omega
 rw[e];exact⟨(Int.le_ediv_iff_mul_le hd.1).2 hn.1,Int.ediv_le_of_le_mul hd.1 hn.2⟩
theorem yz4(n d:Int)(hd:0<d∧d≤100)(hn: -100000≤n∧n≤100000):(zu T).call 243 [.int .i64 n,.int .i64 d] [] 0 []=some (.int .i64 (flr n d),[],0,[]):=by
 have h1:n.tdiv d*d+n.tmod d=n:=by rw[Int.mul_comm];exact Int.mul_tdiv_add_tmod n d
 have h2: -100<n.tmod d∧n.tmod d<100:=by
  have a1:=Int.tmod_lt_of_pos n hd.1;have a2:=Int.lt_tmod_of_pos n hd.1;omega
 have h3: -100100≤n.tdiv d∧n.tdiv d≤100100:=by
  constructor
  ·refine Int.not_lt.1 fun hl=> ?_
   have:n.tdiv d*d≤ -100101*d:=Int.mul_le_mul_of_nonneg_right (by omega) (by omega);omega
  ·refine Int.not_lt.1 fun hl=> ?_
   have:100101*d≤n.tdiv d*d:=Int.mul_le_mul_of_nonneg_right (by omega) (by omega);omega
 have z:(d==0)=false:=by simp;omega
 have w1:IntKind.i64.wrap (n.tdiv d)=n.tdiv d:=wrap64 (by omega) (by omega);have w2:IntKind.i64.wrap (n.tdiv d*d)=n.tdiv d*d:=wrap64 (by omega) (by omega);have w3:IntKind.i64.wrap (n.tdiv d- 1)=n.tdiv d- 1:=wrap64 (by omega) (by omega);rw[xct];unfold flr;by_cases hc:n.tdiv d*d>n
 ·have d1:decide (n.tdiv d*d>n)=true:=decide_eq_true hc
  have d2:decide (n<n.tdiv d*d)=true:=decide_eq_true hc;rw[if_pos hc];simp -implicitDefEqProofs only[go_sem,simprocAttr,z,w1,w2,w3,d1,d2]
 ·have d1:decide (n.tdiv d*d>n)=false:=decide_eq_false hc
  have d2:decide (n<n.tdiv d*d)=false:=decide_eq_false hc;rw[if_neg hc];simp -implicitDefEqProofs only[go_sem,simprocAttr,z,w1,w2,w3,d1,d2]
def tcW(v:Int):Int×Int→List (Int×Int)→Int
 |_,[]=>0
 |a,b::r=>if a.2=0∧b.2=0 then 0 else if v<b.1 then a.2+flr ((b.2- a.2)*(v- a.1)) (b.1- a.1)else tcW v b r
def vp(t:List (Int×Int))(v:Int):Int:=match t with
 | []=>0
 |a::r=>tcW v a r
theorem yu6{x y a b c d:Int}(hx:a≤x∧x≤b)(hy:c≤y∧y≤d)(h: -200≤a∧b≤200∧ -100≤c∧d≤100): -20000≤x*y∧x*y≤20000:=by
 have h1:x.natAbs≤200:=by omega
 have h2:y.natAbs≤100:=by omega
 have h3:(x*y).natAbs≤200*100:=by rw[Int.natAbs_mul];exact Nat.mul_le_mul h1 h2
 omega
theorem yv7(b:Bool)(t:List (Int×Int))(h:tbOk t)(v:Int)(hv:0≤v∧v≤100):∀i,i≤t.length→(hi0:0<i)→
  (zu T).loop false [.code (.loop zi8),.inBlock 0,.code (.seq zlg .ret)] ⟨225,55,0,[(0,.sl b 2 (t.map ptV)),(1,.int .i64 v),(5,.int .i64 i)],[],0,[]⟩=some (.ret (.int .i64 (tcW v (t.getD (i- 1) (0,0)) (t.drop i))),[],0,[]):=by
 have hl2:=h.l2;have hl8:=h.l8;refine xq t.length ?_ fun i hi ih=> ?_
 ·intro h0
  rw[zx];have h1:=z8 t.length;rw[List.drop_length];simp -implicitDefEqProofs only[go_sem,simprocAttr,h1];rfl
 ·intro h0
  obtain⟨h1,h2,h3,h4,h5⟩:=zl hi (by omega);have hs:=h.s (i- 1) (by omega);have ei:i- 1+1=i:=by omega
  simp only[ei]at hs;have ra:=h.r _ (List.getElem_mem (show i- 1<t.length by omega));have rb:=h.r _ (List.getElem_mem hi);have ga:t.getD (i- 1) (0,0)=t[i- 1]'(by omega):=by rw[List.getD_eq_getElem?_getD,List.getElem?_eq_getElem (by omega)];rfl
  have gb:t.getD i (0,0)=t[i]:=by rw[List.getD_eq_getElem?_getD,List.getElem?_eq_getElem hi];rfl
  have qa:t[i- 1]? =some (t[i- 1]'(by omega)):=List.getElem?_eq_getElem _;have wi:IntKind.i64.wrap ((i:Int)- 1)=((i- 1:Nat):Int):=by rw[wrap64 (by omega) (by omega)];omega
  have da:decide (0≤((i- 1:Nat):Int)∧((i- 1:Nat):Int)<(t.length:Int))=true:=decide_eq_true (by omega);have ih:=ih (by omega);rw[show i+1- 1=i by omega,gb]at ih;rw[h5,ga];generalize t[i- 1]'(by omega)=a at*;generalize t[i]=c at*;obtain⟨a1,a2⟩:=a;obtain⟨c1,c2⟩:=c;simp only at hs ra rb;unfold tcW;simp only;have pB:=yu6 (x:=c2- a2) (y:=v- a1) (a:= -200) (b:=200) (c:= -100) (d:=100) (by omega) (by omega) (by decide);have w1:IntKind.i64.wrap (c2- a2)=c2- a2:=wrap64 (by omega) (by omega);have w2:IntKind.i64.wrap (v- a1)=v- a1:=wrap64 (by omega) (by omega);have w3:IntKind.i64.wrap ((c2- a2)*(v- a1))=(c2- a2)*(v- a1):=wrap64 (by omega) (by omega);have w4:IntKind.i64.wrap (c1- a1)=c1- a1:=wrap64 (by omega) (by omega);have e:=yz4 ((c2- a2)*(v- a1)) (c1- a1) (by omega) (by omega);rw[zx];by_cases hz:a2=0∧c2=0
  ·obtain⟨rfl,rfl⟩:=hz
   simp -implicitDefEqProofs only[go_sem,simprocAttr,h1,h2,h3,h4,qa,wi,da,ptV]
  ·rw[if_neg hz]
   have hz2:(a2==0&&c2==0)=false:=by
    cases hq:(a2==0&&c2==0)
    ·rfl
    ·exact absurd (by simpa using hq) hz
   have fb:=ymg (n:=(c2- a2)*(v- a1)) (d:=c1- a1) (a:= -20000) (b:=20000) (by omega) (by omega) (by decide) (by decide);have w5:IntKind.i64.wrap (a2+flr ((c2- a2)*(v- a1)) (c1- a1))=a2+flr ((c2- a2)*(v- a1)) (c1- a1):=wrap64 (by omega) (by omega);by_cases hlt:v<c1
   ·have dl:decide (v<c1)=true:=decide_eq_true hlt
    rw[if_pos hlt];simp -implicitDefEqProofs only[go_sem,simprocAttr,h1,h2,h3,h4,qa,wi,da,ptV,w1,w2,w3,w4,w5,e,dl,hz2]
   ·have dl:decide (v<c1)=false:=decide_eq_false hlt
    rw[if_neg hlt];simp -implicitDefEqProofs only[go_sem,simprocAttr,h1,h2,h3,h4,qa,wi,da,ptV,dl,ih,hz2]
theorem yz5(b:Bool)(t:List (Int×Int))(h:tbOk t)(v:Int)(hv:0≤v∧v≤100):(zu T).call 225 [.sl b 2 (t.map ptV),.int .i64 v] [] 0 []=some (.int .i64 (vp t v),[],0,[]):=by
 have hl2:=h.l2;have e:=yv7 b t h v hv 1 (by omega) (by omega);rw[show((1:Nat):Int)=1 from rfl]at e
 have hq:tcW v (t.getD (1- 1) (0,0)) (t.drop 1)=vp t v:=by
  match t,hl2 with
  |a::r,_=>rfl
 rw[hq]at e;rw[xcx];simp -implicitDefEqProofs only[go_sem,simprocAttr,e]
theorem zo9(v:Int):∀(r:List (Int×Int)) (a:Int×Int),(∀p∈a::r,(0≤p.1∧p.1≤100)∧0≤p.2∧p.2≤200)→(∀i (h:i+1<(a::r).length),(a::r)[i].1<(a::r)[i+1].1∧(a::r)[i+1].2≤(a::r)[i].2)→a.1≤v→0≤tcW v a r∧tcW v a r≤200
 | [],_,_,_,_=>by unfold tcW;omega
 |c::r,a,hr,hs,hav=>by
  have ra:=hr a (by simp);have rc:=hr c (by simp);have h0:=hs 0 (by simp);simp only[List.getElem_cons_zero,List.getElem_cons_succ]at h0;unfold tcW;split
  ·omega
  ·split
   ·rename_i hlt
    have n1:(c.2- a.2)*(c.1- a.1)≤(c.2- a.2)*(v- a.1):=Int.mul_le_mul_of_nonpos_left (by omega) (by omega);have n2:(c.2- a.2)*(v- a.1)≤0:=Int.mul_nonpos_of_nonpos_of_nonneg (by omega) (by omega);have fb:=ymg (n:=(c.2- a.2)*(v- a.1)) (d:=c.1- a.1) (a:=c.2- a.2) (b:=0) (by omega) ⟨n1,by omega⟩ (by omega) (by decide);omega
   ·rename_i hlt
    exact zo9 v r c (fun p hp=>hr p (List.mem_cons_of_mem _ hp)) (fun i h=>by
     have:=hs (i+1) (by simpa using h);simpa only[List.getElem_cons_succ]using this) (by omega)
theorem zo8{t:List (Int×Int)}(h:tbOk t){v:Int}(hv:0≤v):0≤vp t v∧vp t v≤200:=by
 have hl2:=h.l2
 match t,hl2,h with
 |a::r,_,h=>
  have hx:=h.x0 a rfl;exact zo9 v r a h.r h.s (by omega)
def qm(t:List (Int×Int))(light v:Int):Int:=(vp t v*light).tdiv 1000
theorem zn2{t:List (Int×Int)}(h:tbOk t){v l m:Int}(hv:0≤v)(hl:0≤l∧l≤m)(hm:m≤1000):0≤qm t l v∧qm t l v≤qm t m v∧qm t m v≤200:=by
 have hb:=zo8 h hv;have a0:0≤vp t v*l:=Int.mul_nonneg hb.1 hl.1;have a1:vp t v*l≤vp t v*m:=Int.mul_le_mul_of_nonneg_left hl.2 hb.1;have a2:vp t v*m≤200*1000:=Int.mul_le_mul hb.2 hm (by omega) (by decide);unfold qm;rw[Int.tdiv_eq_ediv_of_nonneg a0,Int.tdiv_eq_ediv_of_nonneg (by omega)];omega
theorem yl9(t:List (Int×Int))(h:tbOk t)(light drop v:Int)(hl:0≤light∧light≤1000)(hv:0≤v∧v≤100):(zu T).call 207 [qh t light drop,.int .i64 v] [] 0 []=some (.int .i64 (qm t light v),[],0,[]):=by
 have e:=yz5 true t h v hv;have hb:=zo8 h hv.1;have a0:0≤vp t v*light:=Int.mul_nonneg hb.1 hl.1;have a2:vp t v*light≤200*1000:=Int.mul_le_mul hb.2 hl.2 hl.1 (by decide);have hm:=zn2 h hv.1 ⟨hl.1,Int.le_refl light⟩ hl.2;have w1:IntKind.i64.wrap (vp t v*light)=vp t v*light:=wrap64 (by omega) (by omega);have w2:IntKind.i64.wrap (qm t light v)=qm t light v:=wrap64 (by omega) (by omega);unfold qm at w2;rw[xc3];unfold qm;simp -implicitDefEqProofs only[go_sem,simprocAttr,qh,e,w1,w2]
end Go.Den.FaT
namespace Go.Den.FaT
open Go Go.Proofs Go.Den
theorem yz7(t:List (Int×Int))(h:tbOk t)(light drop:Int)(hl:0≤light∧light≤1000):(zu T).call 181 [qh t light drop,.int .i64 0] [] 0 []=some (.tup [.int .i64 (z7 t),.bool true],[],0,[]):=by
 have hb:=zbj h;have e:=yl9 t h light drop (z7 t) hl (by omega);have e2:=yma true t h;have hm:=zn2 h (v:=z7 t) (by omega) ⟨hl.1,Int.le_refl light⟩ hl.2;have d1:decide (z7 t≥0)=true:=decide_eq_true (by omega);have d1':decide (0≤z7 t)=true:=decide_eq_true (by omega);have d2:decide (qm t light (z7 t)≥0)=true:=decide_eq_true hm.1;have d2':decide (0≤qm t light (z7 t))=true:=decide_eq_true hm.1;simp only[qh]at e⊢;rw[xdh];simp -implicitDefEqProofs only[go_sem,simprocAttr,e2];rw[zx];simp -implicitDefEqProofs only[go_sem,simprocAttr,e,d1,d2,d1',d2']
variable {t:List (Int×Int)} {drop:Int} {ls:List Int} (h:chOk t drop ls)
include h
theorem yws:∀i,i≤ls.length→∀n:Int,n=z7 t*i→
  (zu T).loop false [.code (.loop zjs),.inBlock 0,.code (.seq zl1 .ret)] ⟨135,27,0,[(1,.int .i64 0),(5,.int .i64 n),(10,j4 t drop ls),(11,.int .i64 ls.length),(12,.int .i64 i)],[],0,[]⟩=some (.ret (.int .i64 (z7 t*ls.length)),[],0,[]):=by
 have hl3:=h.l3;have hb:=zbj h.t;refine xq ls.length ?_ fun i hi ih=> ?_
 ·intro n hn
  rw[zx];have h1:=z8 ls.length;simp -implicitDefEqProofs only[go_sem,simprocAttr,h1,j4];rw[hn]
 ·intro n hn
  obtain⟨h1,h2,h3,h4,h5⟩:=zl hi (by omega);have e:=yz7 t h.t ls[i] drop (h.l _ (List.getElem_mem hi));have hp:0≤z7 t*i∧z7 t*i≤100*3:=⟨Int.mul_nonneg (by omega) (by omega),Int.mul_le_mul hb.2 (by omega) (by omega) (by decide)⟩;have w1:IntKind.i64.wrap (n+z7 t)=n+z7 t:=wrap64 (by omega) (by omega);have ih:=ih (n+z7 t) (by rw[hn];rw[show((i+1:Nat):Int)=(i:Int)+1 from rfl,Int.mul_add,Int.mul_one]);simp only[qh,j4]at e ih⊢;rw[zx];simp -implicitDefEqProofs only[go_sem,simprocAttr,h1,h2,h3,h4,e,ih,w1]
theorem xaa:(zu T).call 135 [j4 t drop ls,.int .i64 0] [] 0 []=some (.int .i64 (z7 t*ls.length),[],0,[]):=by
 have e:=yws h 0 (by omega) 0 (by simp);rw[show((0:Nat):Int)=0 from rfl]at e;simp only[j4]at e⊢;rw[xd5];simp -implicitDefEqProofs only[go_sem,simprocAttr,e]
theorem g70:(zu T).call 70 [yc t drop ls] [] 0 []=some (.int .i64 (z7 t*ls.length),[],0,[]):=by
 have e:=xaa h;simp only[j4]at e
 have e1:(zu T).call 134 [j4 t drop ls] [] 0 []=some (.int .i64 (z7 t*ls.length),[],0,[]):=by
  simp only[j4];rw[xd6];simp -implicitDefEqProofs only[go_sem,simprocAttr,e]
 simp only[j4]at e1;have mx:decide (1<maxRow)=true:=by decide
 have w1:IntKind.i64.wrap 1=1:=rfl
 have e2:(zu T).call 133 [yc t drop ls,.fn 134 []] [] 0 []=some (.sl true 1 [.int .i64 (z7 t*ls.length)],[],0,[]):=by
  rw[xd7];simp -implicitDefEqProofs only[go_sem,simprocAttr,yc,j4];rw[zx];simp -implicitDefEqProofs only[go_sem,simprocAttr,e1,mx,w1];rw[zx];simp -implicitDefEqProofs only[go_sem,simprocAttr]
 have e3:(zu T).call 132 [.sl true 1 [.int .i64 (z7 t*ls.length)]] [] 0 []=some (.int .i64 (z7 t*ls.length),[],0,[]):=by
  rw[ym3];simp -implicitDefEqProofs only[go_sem,simprocAttr];rw[zx];simp -implicitDefEqProofs only[go_sem,simprocAttr]
 simp only[yc,j4]at e2⊢;rw[xb4];simp -implicitDefEqProofs only[go_sem,simprocAttr,e2,e3]
end Go.Den.FaT
namespace Go.Den.FaT
open Go Go.Proofs Go.Den
def dsc(A:Nat→Int)(I:Int):Nat→Int
 |0=> -1
 |n+1=>if A n<I then dsc A I n else n
theorem zic(A:Nat→Int)(I:Int):∀n,-1≤dsc A I n∧dsc A I n<n
 |0=>by simp[dsc]
 |n+1=>by
  have:=zic A I n;unfold dsc;split<;>omega
def pI(A:Nat→Int)(n0:Nat):Nat→Int
 |0=>dsc A 0 n0
 |I+1=>dsc A ((I+1:Nat):Int) (pI A n0 I+1).toNat
theorem zao(A:Nat→Int)(n0:Nat):∀I,-1≤pI A n0 I∧pI A n0 I<n0
 |0=>by
  have:=zic A 0 n0;unfold pI;omega
 |I+1=>by
  have h:=zao A n0 I;have:=zic A ((I+1:Nat):Int) (pI A n0 I+1).toNat;unfold pI;omega
def kj(A:Nat→Int)(n0:Nat)(drop:Int)(I:Nat):Int:=if pI A n0 I<0 then -drop else pI A n0 I
def mpL(v:Nat→Int)(n:Nat):List (V×V):=(List.range n).map fun(k:Nat)=>(.int .i64 (k:Int),.int .i64 (v k))
theorem eqI(a b:Int):eqT T 5 3 (.int .i64 a) (.int .i64 b)=some (a==b):=by
 simp -implicitDefEqProofs only[go_sem,simprocAttr]
theorem smB(a:Int):zc5 (.int .i64 a) (.int .i64 a)=true:=by simp[zc5,zc4]
theorem zdn(a:Int):keyOk T 3 3 (.int .i64 a)=true:=by kernel_rfl
theorem zmq{eq:V→V→Option Bool}{x:V}:∀{es fs:List (V×V)},(∀e∈es,eq x e.1=some false)→mapGet eq (es++fs) x=mapGet eq fs x
 | [],_,_=>rfl
 |(a,b)::r,fs,h=>by
  have h1:=h (a,b) (List.mem_cons_self ..);dsimp only at h1;simp only[List.cons_append,mapGet,h1,zmq (es:=r) (fs:=fs) (fun e he=>h e (List.mem_cons_of_mem _ he))]
theorem zmp{eq:V→V→Option Bool}{x y:V}:∀{es fs:List (V×V)},(∀e∈es,eq x e.1=some false)→mapSet eq (es++fs) x y=(mapSet eq fs x y).map (es++ ·)
 | [],fs,_=>by cases h:mapSet eq fs x y<;>simp[h]
 |(a,b)::r,fs,h=>by
  have h1:=h (a,b) (List.mem_cons_self ..);dsimp only at h1;simp only[List.cons_append,mapSet,h1,zmp (es:=r) (fs:=fs) (fun e he=>h e (List.mem_cons_of_mem _ he))];cases mapSet eq fs x y<;>rfl
theorem zhc(v:Nat→Int){n I:Nat}(h:n≤I):∀e∈mpL v n,eqT T 5 3 (.int .i64 I) e.1=some false:=by
 intro e he;obtain⟨k,hk,rfl⟩:=List.mem_map.1 he;have hk:k<n:=by simpa using hk
 rw[eqI];have:((I:Int)==(k:Int))=false:=by simp;omega
 rw[this]
theorem zhb(v:Nat→Int){n I:Nat}(h:I<n):mpL v n=mpL v I++(.int .i64 I,.int .i64 (v I))::(List.range' (I+1) (n- I- 1)).map fun(k:Nat)=>(V.int .i64 (k:Int),V.int .i64 (v k)):=by
 obtain⟨m,rfl⟩:∃m,n=I+(1+m):=⟨n- I- 1,by omega⟩;rw[show I+(1+m)- I- 1=m by omega];unfold mpL;rw[List.range_eq_range',List.range_eq_range',←List.range'_append_1,List.map_append];congr 1;rw[Nat.add_comm 1,List.range'_succ,Nat.zero_add,List.map_cons]
theorem zhd(v:Nat→Int)(n I:Nat):mapGet (eqT T 5 3) (mpL v n) (.int .i64 I)=some (if I<n then some (.int .i64 (v I))else none):=by
 by_cases h:I<n
 ·rw[if_pos h,zhb v h,zmq (zhc v (Nat.le_refl I))]
  simp only[mapGet,eqI,beq_self_eq_true]
 ·rw[if_neg h,←List.append_nil (mpL v n),zmq (zhc v (by omega))]
  rfl
theorem zet{v w:Nat→Int}{n:Nat}(h:∀k,k<n→v k=w k):mpL v n=mpL w n:=by
 unfold mpL;refine List.map_congr_left fun k hk=> ?_;rw[h k (by simpa using hk)]
theorem ylc(v:Nat→Int)(n I:Nat)(y:Int)(h:I≤n):mapSet (eqT T 5 3) (mpL v n) (.int .i64 I) (.int .i64 y)=some (mpL (fun k=>if k=I then y else v k) (max n (I+1))):=by
 by_cases hlt:I<n
 ·rw[show max n (I+1)=n by omega,zhb v hlt,zmp (zhc v (Nat.le_refl I)),zhb _ hlt]
  simp only[mapSet,eqI,smB,beq_self_eq_true,Option.map_some,if_pos];congr 2
  ·exact zet fun k hk=>by rw[if_neg (by omega)]
  ·congr 1
   refine List.map_congr_left fun k hk=> ?_;rw[List.mem_range']at hk;rw[if_neg (by omega)]
 ·have e:n=I:=by omega
  subst e;rw[show max n (n+1)=n+1 by omega,←List.append_nil (mpL v n),zmp (zhc v (Nat.le_refl n)),zhb (fun k=>if k=n then y else v k) (Nat.lt_succ_self n)];simp only[mapSet,Option.map_some,if_pos];congr 2
  ·exact zet fun k hk=>by rw[if_neg (by omega)]
  ·simp
def K1(t:List (Int×Int))(drop:Int)(ls:List Int)(es:List (V×V))(light:Int)(A:List Int)(j i:Nat):Option Out:=
 (zu T).loop false [.code (.loop zji),.inBlock 2,.code (r180_11.seq (r180_12.seq (.block 4 (.loop zd5)))),.inBlock 1,.code zeo,.inLoop zcn,.inBlock 0,.code (r180_22.seq .ret)]
  ⟨180,68,0,[(3,.map 0),(5,.ptr 1 0 0),(6,.ref 2),(11,j4 t drop ls),(12,.int .i64 ls.length),(13,.int .i64 j),(23,.int .i64 A.length),(24,.int .i64 i)],[.map es,.cells true true 160 [qh t light drop],.cells false true 3 (A.map intV)],0,[]⟩
def K2(t:List (Int×Int))(drop:Int)(ls:List Int)(es:List (V×V))(light:Int)(A:List Int)(j:Nat)(p I:Int):Option Out:=
 (zu T).loop false [.code (.loop zd5),.inBlock 4,.inBlock 1,.code zeo,.inLoop zcn,.inBlock 0,.code (r180_22.seq .ret)]
  ⟨180,68,0,[(3,.map 0),(5,.ptr 1 0 0),(6,.ref 2),(8,.int .i64 p),(11,j4 t drop ls),(12,.int .i64 ls.length),(13,.int .i64 j),(37,.int .i64 I)],[.map es,.cells true true 160 [qh t light drop],.cells false true 3 (A.map intV)],0,[]⟩
def K3(t:List (Int×Int))(drop:Int)(ls:List Int)(es:List (V×V))(light:Int)(A:List Int)(j:Nat)(p I:Int):Option Out:=
 (zu T).loop false [.code (.loop zjh),.inBlock 6,.code ((r180_17.seq (.cond (.tmp 53) (r180_18.seq (.exit 5)) .skip)).seq zlp),.inBlock 5,.code zlo,.inLoop zd5,.inBlock 4,.inBlock 1,.code zeo,.inLoop zcn,.inBlock 0,.code (r180_22.seq .ret)]
  ⟨180,68,0,[(3,.map 0),(5,.ptr 1 0 0),(6,.ref 2),(8,.int .i64 p),(9,.int .i64 I),(11,j4 t drop ls),(12,.int .i64 ls.length),(13,.int .i64 j),(37,.int .i64 I)],[.map es,.cells true true 160 [qh t light drop],.cells false true 3 (A.map intV)],0,[]⟩
def K0(t:List (Int×Int))(drop:Int)(ls:List Int)(es:List (V×V))(j:Nat):Option Out:=
 (zu T).loop false [.code (.loop zcn),.inBlock 0,.code (.seq r180_22 .ret)] ⟨180,68,0,[(3,.map 0),(11,j4 t drop ls),(12,.int .i64 ls.length),(13,.int .i64 j)],[.map es],0,[]⟩
variable (t:List (Int×Int)) (drop:Int) (ls:List Int) (light:Int) (A:List Int) (j:Nat)
theorem yyg(es:List (V×V))(hA:A.length<1000):K1 t drop ls es light A j A.length=K2 t drop ls es light A j ((A.length:Int)- 1) 0:=by
 have h1:=z8 A.length;have w1:IntKind.i64.wrap ((A.length:Int)- 1)=(A.length:Int)- 1:=wrap64 (by omega) (by omega);unfold K1 K2;simp only[j4,qh];rw[zx];simp -implicitDefEqProofs only[go_sem,simprocAttr,h1,w1]
theorem yyf(es:List (V×V))(i:Nat)(hi:i<A.length)(hb:A.length<1000)(y:Int)(e:(zu T).call 207 [qh t light drop,.int .i64 i] [] 0 []=some (.int .i64 y,[],0,[])):K1 t drop ls es light A j i=K1 t drop ls es light (A.set i y) j (i+1):=by
 obtain⟨h1,h2,h3,h4,h5⟩:=zl hi (by omega);have hs:(A.set i y).map intV=(A.map intV).set i (.int .i64 y):=by rw[List.map_set];rfl
 unfold K1;simp only[j4,qh]at e⊢;rw[hs,List.length_set,zx];simp -implicitDefEqProofs only[go_sem,simprocAttr,h1,h2,h3,h4,e]
theorem yyc(es:List (V×V))(p I:Int)(hI:decide (I<201)=true):K2 t drop ls es light A j p I=K3 t drop ls es light A j p I:=by
 unfold K2 K3;simp only[j4,qh];rw[zx];simp -implicitDefEqProofs only[go_sem,simprocAttr,hI]
theorem yyd(es:List (V×V))(p:Int)(hj:j<1000):K2 t drop ls es light A j p 201=K0 t drop ls es (j+1):=by
 have w1:IntKind.i64.wrap ((j:Int)+1)=((j+1:Nat):Int):=by rw[wrap64 (by omega) (by omega)];rfl
 unfold K2 K0;simp only[j4,qh];rw[zx];simp -implicitDefEqProofs only[go_sem,simprocAttr,w1]
theorem yx9(v:Nat→Int)(n I:Nat)(hI:I≤n)(hn:n≤201)(hd:0≤drop∧drop≤10)(x:Int)(hx:x=if I<n then v I else 0)(hb: -10000≤x∧x≤10000):K3 t drop ls (mpL v n) light A j (-1) I=K2 t drop ls (mpL (fun k=>if k=I then x- drop else v k) (max n (I+1))) light A j (-1) (I+1:Nat):=by
 have g:=zhd v n I;have s:=ylc v n I (x- drop) hI;have w1:IntKind.i64.wrap (x- drop)=x- drop:=wrap64 (by omega) (by omega);have w2:IntKind.i64.wrap ((I:Int)+1)=((I+1:Nat):Int):=by rw[wrap64 (by omega) (by omega)];rfl
 unfold K3 K2;simp only[j4,qh];rw[zx];by_cases hlt:I<n
 ·rw[if_pos hlt]at g hx
  subst hx;simp -implicitDefEqProofs only[go_sem,simprocAttr,g,s,w1,w2,zdn]
 ·rw[if_neg hlt]at g hx
  subst hx;simp -implicitDefEqProofs only[go_sem,simprocAttr,g,s,w1,w2,zdn]
theorem yx8(v:Nat→Int)(n I:Nat)(hI:I≤n)(hn:n≤201)(m:Nat)(hm:m<A.length)(hm2:m≤1000)(hc:¬A[m]<I)(x:Int)(hx:x=if I<n then v I else 0)(hb: -10000≤x∧x≤10000):K3 t drop ls (mpL v n) light A j m I=K2 t drop ls (mpL (fun k=>if k=I then x+m else v k) (max n (I+1))) light A j m (I+1:Nat):=by
 have g:=zhd v n I;have s:=ylc v n I (x+m) hI;have w1:IntKind.i64.wrap (x+m)=x+m:=wrap64 (by omega) (by omega);have w2:IntKind.i64.wrap ((I:Int)+1)=((I+1:Nat):Int):=by rw[wrap64 (by omega) (by omega)];rfl
 have h5:A[m]? =some A[m]:=List.getElem?_eq_getElem hm;have h6:decide ((m:Int)≥0)=true:=decide_eq_true (by omega);have h7:decide (0≤(m:Int)∧(m:Int)<A.length)=true:=decide_eq_true (by omega);have h8:decide ((m:Int)<0)=false:=decide_eq_false (by omega);have h9:decide (A[m]<(I:Int))=false:=decide_eq_false hc;unfold K3 K2;simp only[j4,qh];rw[zx];by_cases hlt:I<n
 ·rw[if_pos hlt]at g hx
  subst hx;simp -implicitDefEqProofs only[go_sem,simprocAttr,g,s,w1,w2,zdn,h5,h6,h7,h8,h9]
 ·rw[if_neg hlt]at g hx
  subst hx;simp -implicitDefEqProofs only[go_sem,simprocAttr,g,s,w1,w2,zdn,h5,h6,h7,h8,h9]
theorem yya(es:List (V×V))(I:Int)(m:Nat)(hm:m<A.length)(hm2:m≤1000)(hc:A[m]<I):K3 t drop ls es light A j m I=K3 t drop ls es light A j ((m:Int)- 1) I:=by
 have w1:IntKind.i64.wrap ((m:Int)- 1)=(m:Int)- 1:=wrap64 (by omega) (by omega);have h5:A[m]? =some A[m]:=List.getElem?_eq_getElem hm;have h6:decide ((m:Int)≥0)=true:=decide_eq_true (by omega);have h7:decide (0≤(m:Int)∧(m:Int)<A.length)=true:=decide_eq_true (by omega);have h9:decide (A[m]<I)=true:=decide_eq_true hc;unfold K3;simp only[j4,qh];rw[zx];simp -implicitDefEqProofs only[go_sem,simprocAttr,w1,h5,h6,h7,h9]
end Go.Den.FaT
namespace Go.Den.FaT
open Go Go.Proofs Go.Den
def Af(A:List Int)(k:Nat):Int:=A.getD k 0
def xn(t:List (Int×Int))(light:Int):List Int:=(List.range ((z7 t).toNat+1)).map fun(i:Nat)=>qm t light i
section
variable (t:List (Int×Int)) (drop:Int) (ls:List Int) (light:Int) (A:List Int) (j:Nat)
theorem yyb(v:Nat→Int)(n I:Nat)(hI:I≤n)(hn:n≤201)(hd:0≤drop∧drop≤10)(x:Int)(hx:x=if I<n then v I else 0)(hb: -10000≤x∧x≤10000)(hA:A.length≤1000):∀m,m≤A.length→
  K3 t drop ls (mpL v n) light A j ((m:Int)- 1) I=K2 t drop ls (mpL (fun k=>if k=I then x+(if dsc (Af A) I m<0 then -drop else dsc (Af A) I m)else v k) (max n (I+1))) light A j (dsc (Af A) I m) (I+1:Nat):=by
 intro m
 induction m with
 |zero=>
  intro _;have h:=yx9 t drop ls light A j v n I hI hn hd x hx hb;rw[show dsc (Af A) I 0= -1 from rfl,if_pos (by decide)];exact h
 |succ m ih=>
  intro hm;have e:A[m]'(by omega)=Af A m:=by unfold Af;rw[List.getD_eq_getElem?_getD,List.getElem?_eq_getElem (by omega)];rfl
  rw[show(((m+1:Nat):Int)- 1)=(m:Int) by omega];by_cases hc:Af A m<I
  ·rw[yya t drop ls light A j _ I m (by omega) (by omega) (by rw[e];exact hc),ih (by omega)]
   rw[show dsc (Af A) I (m+1)=dsc (Af A) I m from if_pos hc]
  ·rw[show dsc (Af A) I (m+1)=m from if_neg hc,if_neg (by omega)]
   exact yx8 t drop ls light A j v n I hI hn m (by omega) (by omega) (by rw[e];exact hc) x hx hb
def pP(A:List Int):Nat→Int
 |0=>(A.length:Int)- 1
 |I+1=>pI (Af A) A.length I
theorem ytl(A:List Int)(I:Nat): -1≤pP A I∧pP A I<A.length:=by
 cases I with
 |zero=>show -1≤(A.length:Int)- 1∧(A.length:Int)- 1<A.length;omega
 |succ I=>exact zao (Af A) A.length I
theorem ytn(A:List Int)(I:Nat):pI (Af A) A.length I=dsc (Af A) I (pP A I+1).toNat:=by
 cases I with
 |zero=>
  unfold pP pI;rw[show((A.length:Int)- 1+1).toNat=A.length by omega];rfl
 |succ I=>rfl
theorem yye(v:Nat→Int)(n:Nat)(hn:n=0∨n=201)(hd:0≤drop∧drop≤10)(hv0:∀k,n≤k→v k=0)(hvb:∀k,-1000≤v k∧v k≤1000)(hA:A.length≤1000):∀I,I≤201→
  K2 t drop ls (mpL v n) light A j ((A.length:Int)- 1) 0=K2 t drop ls (mpL (fun k=>if k<I then v k+kj (Af A) A.length drop k else v k) (max n I)) light A j (pP A I) I:=by
 intro I
 induction I with
 |zero=>
  intro _;rw[Nat.max_zero];have e:(fun k=>if k<0 then v k+kj (Af A) A.length drop k else v k)=v:=funext fun k=>if_neg (by omega);rw[e];rfl
 |succ I ih=>
  intro hI;rw[ih (by omega),yyc t drop ls light A j _ _ _ (decide_eq_true (by omega))];have hp:=ytl A I
  have h:=yyb t drop ls light A j (fun k=>if k<I then v k+kj (Af A) A.length drop k else v k) (max n I) I (by omega) (by omega) hd (v I) (by
   by_cases hlt:I<max n I
   ·rw[if_pos hlt,if_neg (by omega)]
   ·rw[if_neg hlt,hv0 I (by omega)]) (by have:=hvb I;omega) hA (pP A I+1).toNat (by omega)
  rw[show(((pP A I+1).toNat:Nat):Int)- 1=pP A I by omega,←ytn]at h;rw[h]
  have e:(fun k=>if k=I then v I+(if pI (Af A) A.length I<0 then -drop else pI (Af A) A.length I)else if k<I then v k+kj (Af A) A.length drop k else v k)=fun k=>if k<I+1 then v k+kj (Af A) A.length drop k else v k:=funext fun k=>by
   by_cases h1:k=I
   ·subst h1
    rw[if_pos rfl,if_pos (show k<k+1 by omega)];rfl
   ·rw[if_neg h1]
    by_cases h2:k<I
    ·rw[if_pos h2,if_pos (by omega)]
    ·rw[if_neg h2,if_neg (by omega)]
  rw[e,show max (max n I) (I+1)=max n (I+1) by omega];rfl
theorem zkt(l:List Int)(m:Nat)(y:Int):(l++List.replicate (m+1) 0).set l.length y=(l++ [y])++List.replicate m 0:=by
 rw[List.set_append_right _ _ (Nat.le_refl _),Nat.sub_self,List.replicate_succ,List.set_cons_zero,List.append_assoc];rfl
theorem yyh(es:List (V×V))(ht:tbOk t)(hl:0≤light∧light≤1000):∀i,i≤(z7 t).toNat+1→
  K1 t drop ls es light (List.replicate ((z7 t).toNat+1) 0) j 0=K1 t drop ls es light (((List.range i).map fun(i:Nat)=>qm t light i)++List.replicate ((z7 t).toNat+1- i) 0) j i:=by
 have hb:=zbj ht;intro i
 induction i with
 |zero=>intro _;rfl
 |succ i ih=>
  intro hi;rw[ih (by omega)];have hlen:(((List.range i).map fun(i:Nat)=>qm t light i)++List.replicate ((z7 t).toNat+1- i) 0).length=(z7 t).toNat+1:=by simp;omega
  have h:=yyf t drop ls light (((List.range i).map fun(i:Nat)=>qm t light i)++List.replicate ((z7 t).toNat+1- i) 0) j es i (by rw[hlen];omega) (by rw[hlen];omega) (qm t light i) (yl9 t ht light drop i hl (by omega));rw[h]
  have e:((((List.range i).map fun(i:Nat)=>qm t light i)++List.replicate ((z7 t).toNat+1- i) 0).set i (qm t light i))=((List.range (i+1)).map fun(i:Nat)=>qm t light i)++List.replicate ((z7 t).toNat+1- (i+1)) 0:=by
   have e2:=zkt ((List.range i).map fun(i:Nat)=>qm t light i) ((z7 t).toNat+1- (i+1)) (qm t light i);rw[List.length_map,List.length_range,show(z7 t).toNat+1- (i+1)+1=(z7 t).toNat+1- i by omega]at e2;rw[e2,List.range_succ,List.map_append];rfl
  rw[e]
end
def byS(t:List (Int×Int))(drop:Int)(ls:List Int)(k:Nat):Int:=(ls.map fun l=>kj (Af (xn t l)) (xn t l).length drop k).sum
theorem yqd(t:List (Int×Int))(ht:tbOk t)(l drop:Int)(hd:0≤drop∧drop≤10)(k:Nat): -10≤kj (Af (xn t l)) (xn t l).length drop k∧kj (Af (xn t l)) (xn t l).length drop k≤100:=by
 have hb:=zbj ht;have h:=zao (Af (xn t l)) (xn t l).length k;have hl:(xn t l).length=(z7 t).toNat+1:=by simp[xn]
 unfold kj;split<;>omega
theorem yoj(t:List (Int×Int))(ht:tbOk t)(drop:Int)(hd:0≤drop∧drop≤10)(k:Nat):∀ls:List Int,-10*(ls.length:Int)≤byS t drop ls k∧byS t drop ls k≤100*(ls.length:Int)
 | []=>by simp[byS]
 |l::ls=>by
  have h1:=yoj t ht drop hd k ls;have h2:=yqd t ht l drop hd k;unfold byS at h1⊢;rw[List.map_cons,List.sum_cons,List.length_cons];omega
theorem xh9(t:List (Int×Int))(drop:Int)(ls:List Int)(l:Int)(k:Nat):byS t drop (ls++ [l]) k=byS t drop ls k+kj (Af (xn t l)) (xn t l).length drop k:=by
 unfold byS;rw[List.map_append,List.sum_append];simp
variable {t:List (Int×Int)} {drop:Int} {ls:List Int} (h:chOk t drop ls)
include h
theorem yyj(es:List (V×V))(j:Nat)(hj:j<ls.length):K0 t drop ls es j=K1 t drop ls es ls[j] (List.replicate ((z7 t).toNat+1) 0) j 0:=by
 have hl3:=h.l3;have hb:=zbj h.t;obtain⟨h1,h2,h3,h4,h5⟩:=zl hj (by omega);have e:=yma true t h.t;have w1:IntKind.i64.wrap (z7 t+1)=z7 t+1:=wrap64 (by omega) (by omega);have d1:decide (0≤z7 t+1∧z7 t+1≤z7 t+1∧z7 t+1<(maxRow:Int))=true:=decide_eq_true (by unfold maxRow;omega);have w2:(z7 t+1).toNat=(z7 t).toNat+1:=by omega
 have r1:(List.replicate ((z7 t).toNat+1) (0:Int)).map intV=List.replicate ((z7 t).toNat+1) (.int .i64 0):=by rw[List.map_replicate];rfl
 unfold K0 K1;rw[r1];simp only[j4,qh];rw[zx];simp -implicitDefEqProofs only[go_sem,simprocAttr,h1,h2,h3,h4,qh,e,w1,w2,d1,List.length_replicate]
theorem yyi(v:Nat→Int)(n j:Nat)(hj:j<ls.length)(hn:n=0∨n=201)(hv0:∀k,n≤k→v k=0)(hvb:∀k,-1000≤v k∧v k≤1000):
  K0 t drop ls (mpL v n) j=K0 t drop ls (mpL (fun k=>v k+kj (Af (xn t ls[j])) (xn t ls[j]).length drop k) 201) (j+1):=by
 have hl3:=h.l3;have hb:=zbj h.t;have hcl:(xn t ls[j]).length=(z7 t).toNat+1:=by simp[xn]
 rw[yyj h _ j hj,yyh t drop ls ls[j] j _ h.t (h.l _ (List.getElem_mem hj)) _ (Nat.le_refl _),Nat.sub_self,List.replicate_zero,List.append_nil];have e1:=yyg t drop ls ls[j] (xn t ls[j]) j (mpL v n) (by omega);rw[hcl]at e1;refine e1.trans ?_;rw[←hcl,yye t drop ls ls[j] (xn t ls[j]) j v n hn h.d hv0 hvb (by omega) 201 (Nat.le_refl _)];refine(yyd t drop ls ls[j] (xn t ls[j]) j _ _ (by omega)).trans ?_;rw[show max n 201=201 by omega];exact congrArg (fun e=>K0 t drop ls e (j+1)) (zet fun k hk=>if_pos hk)
end Go.Den.FaT
namespace Go.Den.FaT
open Go Go.Proofs Go.Den
theorem yuy(es:List (V×V))(rs:zj)(k:Prog):ql (.map es::rs) k= .new (.map es) (ql rs k):=rfl
variable {t:List (Int×Int)} {drop:Int} {ls:List Int} (h:chOk t drop ls)
def stV(t:List (Int×Int))(drop:Int)(ls:List Int)(j k:Nat):Int:=if j=0 then 0 else if k<201 then byS t drop (ls.take j) k else 0
include h
theorem yyk:∀j,j≤ls.length→K0 t drop ls [] 0=K0 t drop ls (mpL (stV t drop ls j) (if j=0 then 0 else 201)) j:=by
 intro j
 induction j with
 |zero=>intro _;rfl
 |succ j ih=>
  intro hj;rw[ih (by omega)];have hl3:=h.l3
  have hb:∀k,-1000≤stV t drop ls j k∧stV t drop ls j k≤1000:=fun k=>by
   have:=yoj t h.t drop h.d k (ls.take j);rw[List.length_take]at this;unfold stV;split
   ·omega
   ·split<;>omega
  have h0:∀k,(if j=0 then 0 else 201)≤k→stV t drop ls j k=0:=fun k hk=>by
   unfold stV;split
   ·rfl
   ·rename_i hj0
    rw[if_neg hj0]at hk;rw[if_neg (by omega)]
  rw[yyi h (stV t drop ls j) (if j=0 then 0 else 201) j hj (by split<;>simp) h0 hb];refine congrArg (fun e=>K0 t drop ls e (j+1)) ?_;rw[if_neg (show¬j+1=0 by omega)];refine zet fun k hk=> ?_;unfold stV;rw[if_neg (show¬j+1=0 by omega),if_pos hk,List.take_succ_eq_append_getElem hj,xh9];congr 1;split
  ·rename_i hj0
   subst hj0;simp[byS]
  ·first|rfl|rw[if_pos hk]
theorem yz8:(zu T).call 180 [j4 t drop ls] [] 0 []=some (.map 0,[.map (mpL (byS t drop ls) 201)],0,[]):=by
 have hl1:=h.l1;have hl3:=h.l3;have e:=yyk h ls.length (Nat.le_refl _);rw[if_neg (by omega)]at e
 have e2:mpL (stV t drop ls ls.length) 201=mpL (byS t drop ls) 201:=zet fun k hk=>by
  unfold stV;rw[if_neg (by omega),if_pos hk,List.take_length]
 rw[e2]at e
 have e3:K0 t drop ls (mpL (byS t drop ls) 201) ls.length=some (.ret (.map 0),[.map (mpL (byS t drop ls) 201)],0,[]):=by
  have h1:=z8 ls.length;unfold K0;simp only[j4];generalize mpL (byS t drop ls) 201=M;rw[zx];simp -implicitDefEqProofs only[go_sem,simprocAttr,h1]
 rw[e3]at e;unfold K0 at e;rw[show((0:Nat):Int)=0 from rfl]at e;generalize mpL (byS t drop ls) 201=M at*;simp only[j4]at e⊢;rw[xdi];simp -implicitDefEqProofs only[go_sem,simprocAttr,e]
end Go.Den.FaT
namespace Go.Den.FaT
open Go Go.Proofs Go.Den
def C0(v:Nat→Int)(A:List Int)(c i:Int):Option Out:=
 (zu T).loop false [.code (.loop zf1),.inBlock 0,.code (r131_11.seq .ret)]
  ⟨131,37,0,[(5,.map 0),(6,.ref 1),(7,.int .i64 c),(15,.int .i64 A.length),(16,.int .i64 i)],[.map (mpL v 201),.cells false true 3 (A.map intV)],0,[]⟩
def C1(v:Nat→Int)(A:List Int)(c i:Int):Option Out:=
 (zu T).loop false [.code (.loop zju),.inBlock 2,.code zl3,.inBlock 1,.code zl4,.inLoop zf1,.inBlock 0,.code (r131_11.seq .ret)]
  ⟨131,37,0,[(5,.map 0),(6,.ref 1),(7,.int .i64 c),(8,.int .i64 i),(15,.int .i64 A.length),(16,.int .i64 i)],[.map (mpL v 201),.cells false true 3 (A.map intV)],0,[]⟩
variable (v:Nat→Int) (A:List Int)
theorem xh4(c:Int)(i:Nat)(hi:i<A.length):C0 v A c i=C1 v A c i:=by
 have h1:decide ((i:Int)<(A.length:Int))=true:=decide_eq_true (by omega);unfold C0 C1;generalize mpL v 201=M;rw[zx];simp -implicitDefEqProofs only[go_sem,simprocAttr,h1]
theorem xh5(c:Int):C0 v A c A.length=some (.ret (.sl true 1 (A.map intV)),[],0,[]):=by
 have h1:=z8 A.length;unfold C0;generalize mpL v 201=M;rw[zx];simp -implicitDefEqProofs only[go_sem,simprocAttr,h1]
theorem xgx(i:Nat)(hi:i<A.length)(hA:A.length<1000):C1 v A (-1) i=C0 v (A.set i 0) (-1) (i+1:Nat):=by
 obtain⟨h1,h2,h3,h4,h5⟩:=zl hi (by omega);have hs:(A.set i 0).map intV=(A.map intV).set i (.int .i64 0):=by rw[List.map_set];rfl
 have m0:max (0:Int) (-1)=0:=by decide
 unfold C1 C0;rw[hs,List.length_set];generalize mpL v 201=M;rw[zx];simp -implicitDefEqProofs only[go_sem,simprocAttr,h1,h2,h3,h4,m0]
theorem xgw(i m:Nat)(hi:i<A.length)(hA:A.length<1000)(hm:m<201)(hc:¬v m<i):C1 v A m i=C0 v (A.set i m) m (i+1:Nat):=by
 obtain⟨h1,h2,h3,h4,h5⟩:=zl hi (by omega);have hs:(A.set i (m:Int)).map intV=(A.map intV).set i (.int .i64 m):=by rw[List.map_set];rfl
 have g:=zhd v 201 m;rw[if_pos hm]at g;have m0:max (0:Int) (m:Int)=m:=by omega
 have h6:decide ((m:Int)≥0)=true:=decide_eq_true (by omega);have h9:decide (v m<(i:Int))=false:=decide_eq_false hc;unfold C1 C0;rw[hs,List.length_set];generalize mpL v 201=M at*;rw[zx];simp -implicitDefEqProofs only[go_sem,simprocAttr,h1,h2,h3,h4,h6,h9,g,zdn,m0]
theorem xgy(i m:Nat)(hm:m<201)(hc:v m<i):C1 v A m i=C1 v A ((m:Int)- 1) i:=by
 have g:=zhd v 201 m;rw[if_pos hm]at g;have w1:IntKind.i64.wrap ((m:Int)- 1)=(m:Int)- 1:=wrap64 (by omega) (by omega);have h6:decide ((m:Int)≥0)=true:=decide_eq_true (by omega);have h9:decide (v m<(i:Int))=true:=decide_eq_true hc;unfold C1;generalize mpL v 201=M at*;rw[zx];simp -implicitDefEqProofs only[go_sem,simprocAttr,h6,h9,g,zdn,w1]
theorem xgz(i:Nat)(hi:i<A.length)(hA:A.length<1000):∀m:Nat,m≤201→C1 v A ((m:Int)- 1) i=C0 v (A.set i (max 0 (dsc v i m))) (dsc v i m) (i+1:Nat):=by
 intro m
 induction m with
 |zero=>
  intro _;exact xgx v A i hi hA
 |succ m ih=>
  intro hm;rw[show(((m+1:Nat):Int)- 1)=(m:Int) by omega];by_cases hc:v m<i
  ·rw[xgy v A i m (by omega) hc,ih (by omega),show dsc v i (m+1)=dsc v i m from if_pos hc]
  ·rw[show dsc v i (m+1)=m from if_neg hc,show max (0:Int) (m:Int)=m by omega]
   exact xgw v A i m hi hA (by omega) hc
def crr(v:Nat→Int)(i:Nat):Int:=max 0 (pI v 201 i)
def cP(v:Nat→Int):Nat→Int
 |0=>200
 |i+1=>pI v 201 i
theorem xgi(i:Nat): -1≤cP v i∧cP v i<201:=by
 cases i with
 |zero=>show -1≤(200:Int)∧(200:Int)<201;omega
 |succ i=>exact zao v 201 i
theorem yto(i:Nat):pI v 201 i=dsc v i (cP v i+1).toNat:=by
 cases i with
 |zero=>rfl
 |succ i=>rfl
theorem xh6(e:Nat)(he:e≤900):∀i,i≤e+1→C0 v (List.replicate (e+1) 0) 200 0=C0 v (((List.range i).map (crr v))++List.replicate (e+1- i) 0) (cP v i) i:=by
 intro i
 induction i with
 |zero=>intro _;rfl
 |succ i ih=>
  intro hi;rw[ih (by omega)];have hlen:(((List.range i).map (crr v))++List.replicate (e+1- i) 0).length=e+1:=by simp;omega
  have hb:=xgi v i;rw[xh4 v _ _ i (by rw[hlen];omega)];have h:=xgz v (((List.range i).map (crr v))++List.replicate (e+1- i) 0) i (by rw[hlen];omega) (by rw[hlen];omega) (cP v i+1).toNat (by omega);rw[show(((cP v i+1).toNat:Nat):Int)- 1=cP v i by omega,←yto]at h;rw[h];have e2:=zkt ((List.range i).map (crr v)) (e+1- (i+1)) (max 0 (pI v 201 i));rw[List.length_map,List.length_range,show e+1- (i+1)+1=e+1- i by omega]at e2;rw[e2];rw[show List.range (i+1)=List.range i++ [i]from List.range_succ,List.map_append];rfl
variable {t:List (Int×Int)} {drop:Int} {ls:List Int} (h:chOk t drop ls)
include h
theorem xab(e:Nat)(he:e≤900):(zu T).call 131 [j4 t drop ls,.int .i64 e] [] 0 []=some (.sl true 1 (((List.range (e+1)).map (crr (byS t drop ls))).map intV),[],0,[]):=by
 have e1:=yz8 h;have hc:=xh6 (byS t drop ls) e he (e+1) (Nat.le_refl _);rw[Nat.sub_self,List.replicate_zero,List.append_nil]at hc;have hd:=xh5 (byS t drop ls) ((List.range (e+1)).map (crr (byS t drop ls))) (cP (byS t drop ls) (e+1));rw[List.length_map,List.length_range]at hd;rw[hd]at hc;clear hd;unfold C0 at hc;rw[List.length_replicate,List.map_replicate,show intV 0= .int .i64 0 from rfl]at hc;generalize hN:e+1=N at*;have w1:IntKind.i64.wrap ((e:Int)+1)=(N:Int):=by rw[wrap64 (by omega) (by omega)];omega
 have d1:decide (0≤(N:Int)∧(N:Int)≤(N:Int)∧(N:Int)<(maxRow:Int))=true:=decide_eq_true (by unfold maxRow;omega);generalize mpL (byS t drop ls) 201=M at*;generalize ((List.range N).map (crr (byS t drop ls))).map intV=R at*;simp only[j4]at e1⊢;rw[xd8];simp -implicitDefEqProofs only[go_sem,simprocAttr,e1,w1,d1,xgf,xio,xaf,yuy,hc,List.length_replicate]
end Go.Den.FaT
namespace Go.Den.FaT
open Go Go.Proofs Go.Den
def D1(fd:List V)(e:Int)(A B:List Int)(i:Int):Option Out:=
 (zu T).loop false [.code (.loop zix),.inBlock 2,.inBlock 1,.code zk5,.inLoop zfu,.inBlock 0,.code (r69_11.seq .ret)]
  ⟨69,38,0,[(1,.int .i64 e),(5,.ref 0),(13,.sl true 1 fd),(14,.int .i64 fd.length),(15,.int .i64 0),(21,.sl true 1 (B.map intV)),(22,.int .i64 B.length),(23,.int .i64 i)],[.cells false true 3 (A.map intV)],0,[]⟩
def D0(fd:List V)(e:Int)(A:List Int)(j:Int):Option Out:=
 (zu T).loop false [.code (.loop zfu),.inBlock 0,.code (r69_11.seq .ret)]
  ⟨69,38,0,[(1,.int .i64 e),(5,.ref 0),(13,.sl true 1 fd),(14,.int .i64 fd.length),(15,.int .i64 j)],[.cells false true 3 (A.map intV)],0,[]⟩
theorem xe0(fd:List V)(e:Int)(A B:List Int)(i:Nat)(hi:i<B.length)(hAB:A.length=B.length)(hB:B.length<1000)(h0:A[i]? =some 0)(hb: -1000≤B[i]∧B[i]≤1000):D1 fd e A B i=D1 fd e (A.set i B[i]) B (i+1:Nat):=by
 obtain⟨h1,h2,h3,h4,h5⟩:=zl hi (by omega);have h2':decide (0≤(i:Int)∧(i:Int)<(A.length:Int))=true:=decide_eq_true (by omega);have hs:(A.set i B[i]).map intV=(A.map intV).set i (.int .i64 B[i]):=by rw[List.map_set];rfl
 have w1:IntKind.i64.wrap (0+B[i])=B[i]:=by rw[Int.zero_add];exact wrap64 (by omega) (by omega)
 unfold D1;rw[hs];rw[zx];simp -implicitDefEqProofs only[go_sem,simprocAttr,h1,h2,h3,h4,h2',h0,w1]
theorem xe1(fd:List V)(e:Int)(A B:List Int):D1 fd e A B B.length=D0 fd e A 1:=by
 have h1:=z8 B.length;have w1:IntKind.i64.wrap 1=1:=rfl;unfold D1 D0;rw[zx];simp -implicitDefEqProofs only[go_sem,simprocAttr,h1,w1]
theorem xe3(x:V)(e:Int)(A:List Int):D0 [x] e A 1=some (.ret (.sl true 1 (A.map intV)),[],0,[]):=by
 unfold D0;rw[zx];simp -implicitDefEqProofs only[go_sem,simprocAttr]
theorem xe2(fd:List V)(e:Int)(B:List Int)(hB:B.length<1000)(hb:∀x∈B,-1000≤x∧x≤1000):∀i,i≤B.length→D1 fd e (List.replicate B.length 0) B (0:Nat)=D1 fd e (B.take i++List.replicate (B.length- i) 0) B i:=by
 intro i
 induction i with
 |zero=>intro _;rfl
 |succ i ih=>
  intro hi;rw[ih (by omega)];have hlen:(B.take i++List.replicate (B.length- i) 0).length=B.length:=by simp;omega
  have hl:(B.take i).length=i:=by rw[List.length_take];omega
  have h:=xe0 fd e (B.take i++List.replicate (B.length- i) 0) B i (by omega) hlen hB (by
   rw[List.getElem?_append_right (by omega),hl,Nat.sub_self,show B.length- i=(B.length- (i+1))+1 by omega,List.replicate_succ];rfl) (hb _ (List.getElem_mem _))
  rw[h];have e2:=zkt (B.take i) (B.length- (i+1)) (B[i]'(by omega));rw[hl,show B.length- (i+1)+1=B.length- i by omega]at e2;rw[e2,List.take_succ_eq_append_getElem (by omega)]
variable {t:List (Int×Int)} {drop:Int} {ls:List Int} (h:chOk t drop ls)
include h
def crvL(t:List (Int×Int))(drop:Int)(ls:List Int)(e:Nat):List Int:=(List.range (e+1)).map (crr (byS t drop ls))
omit h in
theorem zdz(v:Nat→Int)(i:Nat):0≤crr v i∧crr v i≤200:=by
 have:=zao v 201 i;unfold crr;omega
omit h in
theorem zfk(e:Nat):(crvL t drop ls e).length=e+1:=by simp[crvL]
omit h in
theorem znq(e:Nat):∀x∈crvL t drop ls e,0≤x∧x≤200:=by
 intro x hx;obtain⟨i,_,rfl⟩:=List.mem_map.1 hx;exact zdz _ i
theorem g69(e:Nat)(he:e≤900):(zu T).call 69 [yc t drop ls,.int .i64 e] [] 0 []=some (.sl true 1 ((crvL t drop ls e).map intV),[],0,[]):=by
 have e1:=xab h e he;have hlen:=zfk (t:=t) (drop:=drop) (ls:=ls) e;have hd:=xe2 [j4 t drop ls] e (crvL t drop ls e) (by omega) (fun x hx=>by have:=znq e x hx;omega) (crvL t drop ls e).length (Nat.le_refl _);rw[Nat.sub_self,List.replicate_zero,List.append_nil,List.take_length,xe1,xe3]at hd;rw[show((List.range (e+1)).map (crr (byS t drop ls)))=crvL t drop ls e from rfl]at e1;unfold D1 at hd;rw[List.map_replicate,show intV 0= .int .i64 0 from rfl]at hd;generalize crvL t drop ls e=B at*;generalize hN:e+1=N at*;have w1:IntKind.i64.wrap ((e:Int)+1)=(N:Int):=by rw[wrap64 (by omega) (by omega)];omega
 have d1:decide (0≤(N:Int)∧(N:Int)≤(N:Int)∧(N:Int)<(maxRow:Int))=true:=decide_eq_true (by unfold maxRow;omega);rw[hlen,show(([j4 t drop ls].length:Nat):Int)=1 from rfl,show((0:Nat):Int)=0 from rfl]at hd;simp only[j4,yc]at e1 hd⊢;rw[xb5];simp -implicitDefEqProofs only[go_sem,simprocAttr,e1,w1,d1,List.length_replicate];rw[zx];simp -implicitDefEqProofs only[go_sem,simprocAttr,e1,hlen,hd]
end Go.Den.FaT
namespace Go.Den.FaT
open Go Go.Proofs Go.Den
variable {t:List (Int×Int)} {drop:Int} {ls:List Int} (h:chOk t drop ls)
include h
theorem g21(e:Nat)(he:e≤800):(zu T).call 21 [yc t drop ls,.int .i64 e] [] 0 []=some (.tup [.int .i64 (crr (byS t drop ls) e),.int .i64 0],[],0,[]):=by
 have e1:=g68 h;have e2:=g69 h e (by omega);have e3:=g72 e;rw[zda (by omega)]at e3;have f0:xj [0,0]=0:=rfl;have hlen:=zfk (t:=t) (drop:=drop) (ls:=ls) e;have q:(crvL t drop ls e)[e]? =some (crr (byS t drop ls) e):=by simp[crvL]
 have d1:decide (0≤(e:Int)∧(e:Int)<((crvL t drop ls e).length:Int))=true:=decide_eq_true (by omega);generalize crvL t drop ls e=B at*;simp only[yc,j4]at e1 e2⊢;rw[xc2];simp -implicitDefEqProofs only[go_sem,simprocAttr,e1,e2,e3,znb,f0,q,d1]
theorem g50(e:Nat)(he:e≤800):(zu T).call 50 [yc t drop ls,.int .i64 e] [] 0 []=some (.tup [.int .i64 (e*crr (byS t drop ls) e),.int .i64 0],[],0,[]):=by
 have e1:=g21 h e he;have hb:=zdz (byS t drop ls) e;have hp:0≤(e:Int)*crr (byS t drop ls) e∧(e:Int)*crr (byS t drop ls) e≤800*200:=⟨Int.mul_nonneg (by omega) hb.1,Int.mul_le_mul (by omega) hb.2 hb.1 (by decide)⟩;have w1:IntKind.i64.wrap ((e:Int)*crr (byS t drop ls) e)=e*crr (byS t drop ls) e:=wrap64 (by omega) (by omega);simp only[yc,j4]at e1⊢;rw[xch];simp -implicitDefEqProofs only[go_sem,simprocAttr,e1,w1]
def endN(t:List (Int×Int))(ls:List Int):Nat:=(z7 t*ls.length).toNat
theorem zia:endN t ls≤300∧((endN t ls:Nat):Int)=z7 t*ls.length:=by
 have hb:=zbj h.t;have hl3:=h.l3;have hp:0≤z7 t*ls.length∧z7 t*ls.length≤100*3:=⟨Int.mul_nonneg (by omega) (by omega),Int.mul_le_mul hb.2 (by omega) (by omega) (by decide)⟩;unfold endN;omega
theorem g18:(zu T).call 18 [yc t drop ls] [] 0 []=some (.tup [.sl true 1 ((crvL t drop ls (endN t ls)).map intV),.int .i64 0],[],0,[]):=by
 have e1:=g68 h;have hb:=zia h;have e2:=g69 h (endN t ls) (by omega);have e3:=g70 h;rw[←hb.2]at e3;generalize crvL t drop ls (endN t ls)=B at*;simp only[yc,j4]at e1 e2 e3⊢;rw[xdj];simp -implicitDefEqProofs only[go_sem,simprocAttr,e1,e2,e3]
end Go.Den.FaT
namespace Go.Den.FaT
open Go Go.Proofs Go.Den
def exT:List (Int×Int):= [(0,10),(4,8),(6,0)]
theorem xa8:tbOk exT where
 l2:=by decide
 l8:=by decide
 x0:=fun p hp=>by cases hp;rfl
 r:=by decide
 s:=fun i hi=>by
  have hi:i+1<3:=hi;have:i=0∨i=1:=by omega
  rcases this with rfl|rfl
  ·simp[exT]
  ·simp[exT]
 z:=fun p hp=>by cases hp;rfl
theorem exC{l:Int}(hl:0≤l∧l≤1000):chOk exT 1 [1000,l] where
 t:=xa8
 d:=by decide
 l1:=by simp
 l3:=by simp
 l:=fun x hx=>by
  simp at hx;rcases hx with rfl|rfl
  ·decide
  ·exact hl
theorem ex1:crr (byS exT 1 [1000,1000]) 8=8:=by kernel_rfl
theorem ex2:crr (byS exT 1 [1000,500]) 8=4:=by kernel_rfl
theorem p1:(zu T).call 50 [yc exT 1 [1000,1000],.int .i64 8] [] 0 []=some (.tup [.int .i64 64,.int .i64 0],[],0,[]):=by
 have e:=g50 (exC (l:=1000) (by decide)) 8 (by decide);rw[ex1]at e;exact e
theorem p2:(zu T).call 50 [yc exT 1 [1000,500],.int .i64 8] [] 0 []=some (.tup [.int .i64 32,.int .i64 0],[],0,[]):=by
 have e:=g50 (exC (l:=500) (by decide)) 8 (by decide);rw[ex2]at e;exact e
def mm2:zbs:= [(50,[yc exT 1 [1000,1000],.int .i64 8],.tup [.int .i64 64,.int .i64 0]),(50,[yc exT 1 [1000,500],.int .i64 8],.tup [.int .i64 32,.int .i64 0])]
theorem mo2:MemoOk T mm2:= .cons (.cons (.nil T) p2) p1
theorem aw8:(zu T).call 8 [] [] 0 []=some (.bool true,[],0,[]):=jf mo2 100000 (by kernel_rfl)
structure preT (t:List (Int×Int)) (i:Nat):Prop where
 x0:∀p,0<i→t[0]? =some p→p.1=0
 r:∀k (h:k<t.length),k<i→(0≤t[k].1∧t[k].1≤100)∧0≤t[k].2∧t[k].2≤200
 s:∀k (h:k+1<t.length),k+1<i→t[k].1<t[k+1].1∧t[k+1].2≤t[k].2
theorem zkv{n a b:Int}(h:wb n a b=0):a≤n∧n≤b:=by
 rw[zeh]at h;split at h
 ·cases h
 ·omega
theorem fnz2{a b:Int}(h:xj [a,b]=0):a=0∧b=0:=by
 have:=xt.1 h;exact⟨this a (by simp),this b (by simp)⟩
theorem yzr(b:Bool)(t:List (Int×Int))(hl2:2≤t.length)(hl8:t.length≤8):∀i,i≤t.length→preT t i→
  ∃e:Int,(e=0→tbOk t)∧(zu T).loop false [.code (.loop zjy),.inBlock 0,.code (.seq zl8 .ret)] ⟨116,93,0,[(0,.sl b 2 (t.map ptV)),(4,.int .i64 i)],[],0,[]⟩=some (.ret (.int .i64 e),[],0,[]):=by
 refine xq t.length ?_ fun i hi ih=> ?_
 ·intro hp
  have h1:=z8 t.length;have w1:IntKind.i64.wrap ((t.length:Int)- 1)=((t.length- 1:Nat):Int):=by rw[wrap64 (by omega) (by omega)];omega
  have q:t[t.length- 1]? =some (t[t.length- 1]'(by omega)):=List.getElem?_eq_getElem _;have d1:decide (0≤((t.length- 1:Nat):Int)∧((t.length- 1:Nat):Int)<(t.length:Int))=true:=decide_eq_true (by omega);refine⟨cond ((t[t.length- 1]'(by omega)).2 !=0) 32 0,fun he=> ?_,?_⟩
  ·have hz:(t[t.length- 1]'(by omega)).2=0:=by
    cases hq:((t[t.length- 1]'(by omega)).2 !=0)
    ·simpa using hq
    ·rw[hq]at he;cases he
   refine⟨hl2,hl8,fun p h=>hp.x0 p (by omega) h,fun p hm=> ?_,fun k h=>hp.s k h h,fun p h=> ?_⟩
   ·obtain⟨k,hk,rfl⟩:=List.mem_iff_getElem.1 hm
    exact hp.r k hk hk
   ·rw[q]at h
    cases h;exact hz
  ·rw[zx]
   simp -implicitDefEqProofs only[go_sem,simprocAttr,h1,w1,q,d1,ptV,y8]
 ·intro hp
  obtain⟨h1,h2,h3,h4,h5⟩:=zl hi (by omega);cases hr:(xj [wb t[i].1 0 100,wb t[i].2 0 200] !=0)
  ·have hr0:xj [wb t[i].1 0 100,wb t[i].2 0 200]=0:=by simpa using hr
   have hrr:=fnz2 hr0;have hx:=zkv hrr.1;have hy:=zkv hrr.2;by_cases h0:i=0
   ·subst h0
    by_cases hz:t[0].1=0
    ·obtain⟨e,he1,he2⟩:=ih ⟨fun p _ hp0=>by
       rw[List.getElem?_eq_getElem hi]at hp0;cases hp0;exact hz,fun k hk hk1=>by
       have:k=0:=by omega
       subst this;exact⟨hx,hy⟩,fun k hk hk1=>by omega⟩
     refine⟨e,he1,?_⟩;have q1:decide (0<(t.length:Int))=true:=decide_eq_true (by omega);have q2:decide ((0:Int)≤0∧0<(t.length:Int))=true:=decide_eq_true (by omega);have w1:IntKind.i64.wrap 1=1:=rfl;rw[hz]at hr;rw[show((0+1:Nat):Int)=1 from rfl]at he2;rw[zx];simp -implicitDefEqProofs only[go_sem,simprocAttr,h1,h2,h3,h4,q1,q2,ptV,uo,jr,hr,hz,w1,he2]
    ·refine⟨11,(fun h=>by cases h),?_⟩
     have q1:decide (0<(t.length:Int))=true:=decide_eq_true (by omega);have q2:decide ((0:Int)≤0∧0<(t.length:Int))=true:=decide_eq_true (by omega);have hz2:(t[0].1 !=0)=true:=by simpa using hz
     rw[zx];simp -implicitDefEqProofs only[go_sem,simprocAttr,h1,h2,h3,h4,q1,q2,ptV,uo,jr,hr,hz2]
   ·have qa:t[i- 1]? =some (t[i- 1]'(by omega)):=List.getElem?_eq_getElem _
    have wi:IntKind.i64.wrap ((i:Int)- 1)=((i- 1:Nat):Int):=by rw[wrap64 (by omega) (by omega)];omega
    have da:decide (0≤((i- 1:Nat):Int)∧((i- 1:Nat):Int)<(t.length:Int))=true:=decide_eq_true (by omega);have z1:((i:Int)==0)=false:=by simp;omega
    have z2:decide ((i:Int)>0)=true:=decide_eq_true (by omega);have z3:decide ((0:Int)<(i:Int))=true:=decide_eq_true (by omega);by_cases hc:t[i].1≤(t[i- 1]'(by omega)).1
    ·refine⟨11,(fun h=>by cases h),?_⟩
     have d1:decide (t[i].1≤(t[i- 1]'(by omega)).1)=true:=decide_eq_true hc;rw[zx];simp -implicitDefEqProofs only[go_sem,simprocAttr,h1,h2,h3,h4,qa,wi,da,z1,z2,z3,ptV,uo,jr,hr,d1]
    ·have d1:decide (t[i].1≤(t[i- 1]'(by omega)).1)=false:=decide_eq_false hc
     by_cases hd:t[i].2>(t[i- 1]'(by omega)).2
     ·refine⟨11,(fun h=>by cases h),?_⟩
      have d2:decide (t[i].2>(t[i- 1]'(by omega)).2)=true:=decide_eq_true hd;have d2':decide ((t[i- 1]'(by omega)).2<t[i].2)=true:=decide_eq_true hd;rw[zx];simp -implicitDefEqProofs only[go_sem,simprocAttr,h1,h2,h3,h4,qa,wi,da,z1,z2,z3,ptV,uo,jr,hr,d1,d2,d2']
     ·obtain⟨e,he1,he2⟩:=ih ⟨fun p _ hp0=>hp.x0 p (by omega) hp0,fun k hk hk1=>by
        by_cases hki:k=i
        ·subst hki;exact⟨hx,hy⟩
        ·exact hp.r k hk (by omega),fun k hk hk1=>by
        by_cases hki:k+1=i
        ·subst hki
         simp only[Nat.add_sub_cancel]at hc hd;omega
        ·exact hp.s k hk (by omega)⟩
      refine⟨e,he1,?_⟩;have d2:decide (t[i].2>(t[i- 1]'(by omega)).2)=false:=decide_eq_false hd;have d2':decide ((t[i- 1]'(by omega)).2<t[i].2)=false:=decide_eq_false hd;rw[zx];simp -implicitDefEqProofs only[go_sem,simprocAttr,h1,h2,h3,h4,qa,wi,da,z1,z2,z3,ptV,uo,jr,hr,d1,d2,d2',he2]
  ·refine⟨xj [wb t[i].1 0 100,wb t[i].2 0 200],(fun h=>by simp[h]at hr),?_⟩
   rw[zx];simp -implicitDefEqProofs only[go_sem,simprocAttr,h1,h2,h3,h4,ptV,uo,jr,hr]
theorem xad(b:Bool)(t:List (Int×Int)):∃e:Int,(e=0→tbOk t)∧(zu T).call 116 [.sl b 2 (t.map ptV)] [] 0 []=some (.int .i64 e,[],0,[]):=by
 by_cases h2:t.length<2
 ·refine⟨16,(fun h=>by cases h),?_⟩
  have d1:decide ((t.length:Int)<2)=true:=decide_eq_true (by omega);have d2:decide ((t.length:Int)>8)=false:=decide_eq_false (by omega);have f0:xj [16,0]=16:=rfl;rw[znn];simp -implicitDefEqProofs only[go_sem,simprocAttr,d1,d2,y8,jr,f0]
 ·by_cases h8:t.length>8
  ·refine⟨5,(fun h=>by cases h),?_⟩
   have d1:decide ((t.length:Int)<2)=false:=decide_eq_false (by omega);have d2:decide ((t.length:Int)>8)=true:=decide_eq_true (by omega);have f0:xj [0,5]=5:=rfl;rw[znn];simp -implicitDefEqProofs only[go_sem,simprocAttr,d1,d2,y8,jr,f0]
  ·obtain⟨e,he1,he2⟩:=yzr b t (by omega) (by omega) 0 (by omega) ⟨fun p h=>absurd h (by omega),fun k hk h=>absurd h (by omega),fun k hk h=>absurd h (by omega)⟩
   refine⟨e,he1,?_⟩;have d1:decide ((t.length:Int)<2)=false:=decide_eq_false (by omega);have d2:decide ((t.length:Int)>8)=false:=decide_eq_false (by omega);have f0:xj [0,0]=0:=rfl;rw[show((0:Nat):Int)=0 from rfl]at he2;rw[znn];simp -implicitDefEqProofs only[go_sem,simprocAttr,d1,d2,y8,jr,f0,he2]
def qy(bt:Bool)(t:List (Int×Int))(drop cells l0 l1 l2 tr wide:Int)(bv:Bool)(vs:List Int):V:=
 .agg [.sl bt 2 (t.map ptV),.int .i64 drop,.int .u8 cells,.int .u16 l0,.int .u16 l1,.int .u16 l2,.int .u8 tr,.int .u8 wide,.sl bv 1 (vs.map fun n=> .int .u16 n)]
theorem g7(bt:Bool)(t:List (Int×Int))(drop cells l0 l1 l2 tr wide:Int)(bv:Bool)(vs:List Int):∃r:Bool,(r=true→tbOk t∧(0≤drop∧drop≤10)∧1≤vs.length∧vs.length≤3)∧(zu T).call 7 [qy bt t drop cells l0 l1 l2 tr wide bv vs] [] 0 []=some (.bool r,[],0,[]):=by
 obtain⟨e,he1,he2⟩:=xad bt t;by_cases h9:t.length≤9
 ·have d1:decide ((t.length:Int)≤9)=true:=decide_eq_true (by omega)
  have e48:(zu T).call 48 [.sl bt 2 (t.map ptV)] [] 0 []=some (.bool true,[],0,[]):=by
   rw[ym0];simp -implicitDefEqProofs only[go_sem,simprocAttr,d1]
  have e49:(zu T).call 49 [.agg [.sl bt 2 (t.map ptV),.int .i64 0,.int .i64 drop]] [] 0 []=some (.int .i64 (xj [e,0,wb drop 0 10]),[],0,[]):=by
   have r0:wb 0 0 1000=0:=rfl;rw[xci];simp -implicitDefEqProofs only[go_sem,simprocAttr,he2,uo,zfp,r0]
  cases hc:(xj [e,0,wb drop 0 10]==0)
  ·refine⟨false,(fun h=>by cases h),?_⟩
   rw[zh8];simp -implicitDefEqProofs only[go_sem,simprocAttr,qy,e48,e49,hc]
  ·have hz:xj [e,0,wb drop 0 10]=0:=by simpa using hc
   have hz1:=xt.1 hz e (by simp);have hz2:=zkv (xt.1 hz (wb drop 0 10) (by simp));by_cases h1:1≤vs.length
   ·have d2:decide ((vs.length:Int)≥1)=true:=decide_eq_true (by omega)
    have d2':decide (1≤(vs.length:Int))=true:=decide_eq_true (by omega);refine⟨decide (vs.length≤3),fun h=>⟨he1 hz1,hz2,h1,of_decide_eq_true h⟩,?_⟩
    have d3:decide ((vs.length:Int)≤3)=decide (vs.length≤3):=by
     by_cases h3:vs.length≤3
     ·rw[decide_eq_true h3];exact decide_eq_true (by omega)
     ·rw[decide_eq_false h3];exact decide_eq_false (by omega)
    rw[zh8];simp -implicitDefEqProofs only[go_sem,simprocAttr,qy,e48,e49,hc,d2,d2',d3]
   ·have d2:decide ((vs.length:Int)≥1)=false:=decide_eq_false (by omega)
    have d2':decide (1≤(vs.length:Int))=false:=decide_eq_false (by omega);refine⟨false,(fun h=>by cases h),?_⟩;rw[zh8];simp -implicitDefEqProofs only[go_sem,simprocAttr,qy,e48,e49,hc,d2,d2']
 ·have d1:decide ((t.length:Int)≤9)=false:=decide_eq_false (by omega)
  have e48:(zu T).call 48 [.sl bt 2 (t.map ptV)] [] 0 []=some (.bool false,[],0,[]):=by
   rw[ym0];simp -implicitDefEqProofs only[go_sem,simprocAttr,d1]
  refine⟨false,(fun h=>by cases h),?_⟩;rw[zh8];simp -implicitDefEqProofs only[go_sem,simprocAttr,qy,e48]
theorem yzo(bt:Bool)(Q:List V)(hE:Q.isEmpty=false)(hid:zi Q= [])(hQ:Q.length≤8)(drop:Int)(ls:List Int)(hl:ls.length≤3):∀i,i≤ls.length→0<i→
  (zu T).loop false [.code (.loop zjb),.inBlock 0,.code (.seq zlj .ret)] ⟨19,27,0,[(0,.sl bt 2 Q),(2,.int .i64 drop),(7,.ref 0),(10,.sl true 1 (ls.map intV)),(11,.int .i64 ls.length),(12,.int .i64 i)],[.cells false true 160 ((ls.take i).map fun l=> .agg [.sl true 2 Q,.int .i64 l,.int .i64 drop])],0,[]⟩=some (.ret (.sl true 3 (ls.map fun l=> .agg [.sl true 2 Q,.int .i64 l,.int .i64 drop])),[],0,[]):=by
 refine xq ls.length ?_ fun i hi ih=> ?_
 ·intro h0
  rw[zx];have h1:=z8 ls.length;rw[List.take_length];simp -implicitDefEqProofs only[go_sem,simprocAttr,h1]
 ·intro h0
  obtain⟨h1,h2,h3,h4,h5⟩:=zl hi (by omega);have ih:=ih (by omega);rw[List.take_succ_eq_append_getElem hi,List.map_append,List.map_cons,List.map_nil]at ih;have mx:decide ((ls.take i).length+1<maxRow)=true:=decide_eq_true (by rw[List.length_take];unfold maxRow;omega);have my:decide (Q.length<maxRow)=true:=decide_eq_true (by unfold maxRow;omega);rw[zx];simp -implicitDefEqProofs only[go_sem,simprocAttr,h1,h2,h3,h4,ih,mx,my,zot,hE,hid,List.isEmpty_nil]
theorem g19(bt:Bool)(t:List (Int×Int))(ht:tbOk t)(drop:Int)(ls:List Int)(h1:1≤ls.length)(hl:ls.length≤3):(zu T).call 19 [.sl bt 2 (t.map ptV),.sl true 1 (ls.map intV),.int .i64 drop] [] 0 []=some (j4 t drop ls,[],0,[]):=by
 have hl2:=ht.l2;have hl8:=ht.l8
 have hE:(t.map ptV).isEmpty=false:=by
  cases t with
  |nil=>simp at hl2
  |cons a r=>rfl
 have hid:zi (t.map ptV)= []:=zm4 ptV _ fun s=>rfl;have hQ:(t.map ptV).length≤8:=by simpa using hl8
 have e:=yzo bt (t.map ptV) hE hid hQ drop ls hl 1 h1 (by omega);unfold j4;simp only[qh];generalize t.map ptV=Q at*;have q:ls[0]? =some (ls[0]'(by omega)):=List.getElem?_eq_getElem _;have d1:decide (0<(ls.length:Int))=true:=decide_eq_true (by omega);have d2:decide ((0:Int)≤0∧0<(ls.length:Int))=true:=decide_eq_true (by omega);have my:decide (Q.length<maxRow)=true:=decide_eq_true (by unfold maxRow;omega);have mx:decide (1<maxRow)=true:=by decide
 have w1:IntKind.i64.wrap 1=1:=rfl
 have e2:(ls.take 1)= [ls[0]'(by omega)]:=by
  have:=List.take_succ_eq_append_getElem (show 0<ls.length by omega);simpa using this
 rw[e2,show((1:Nat):Int)=1 from rfl]at e;simp only[List.map_cons,List.map_nil]at e;rw[xdb];simp -implicitDefEqProofs only[go_sem,simprocAttr];rw[zx];simp -implicitDefEqProofs only[go_sem,simprocAttr,q,d1,d2,e,mx,my,w1,zot,hE,hid,List.isEmpty_nil]
def zd(cells first:Int):List Int:=first::List.replicate (cells %3).toNat 1000
theorem zdr{t:List (Int×Int)}{drop cells first:Int}(ht:tbOk t)(hd:0≤drop∧drop≤10)(hf:0≤first∧first≤1000):chOk t drop (zd cells first) where
 t:=ht
 d:=hd
 l1:=by simp[zd]
 l3:=by simp[zd];omega
 l:=fun x hx=>by
  rcases List.mem_cons.1 hx with rfl|hx
  ·exact hf
  ·obtain⟨_,rfl⟩:=List.mem_replicate.1 hx
   decide
theorem uc(bt:Bool)(t:List (Int×Int))(drop cells l0 l1 l2 tr wide:Int)(bv:Bool)(vs:List Int)(hc:0≤cells∧cells≤255)(first:Int):(zu T).call 20 [qy bt t drop cells l0 l1 l2 tr wide bv vs,.int .i64 first] [] 0 []=some (.sl true 1 ((zd cells first).map intV),[],0,[]):=by
 have w0:IntKind.i64.wrap cells=cells:=wrap64 (by omega) (by omega);have wt:cells.tmod 3=cells %3:=Int.tmod_eq_emod_of_nonneg hc.1;have w1:IntKind.i64.wrap 1=1:=rfl;have w2:IntKind.i64.wrap 2=2:=rfl;have m2:decide (2<maxRow)=true:=by decide
 have m3:decide (3<maxRow)=true:=by decide
 have h3:cells %3=0∨cells %3=1∨cells %3=2:=by omega
 unfold zd;rw[xc8];rcases h3 with h3|h3|h3
 ·rw[h3]
  simp -implicitDefEqProofs only[go_sem,simprocAttr,qy,w0,wt,h3];rw[zx];simp -implicitDefEqProofs only[go_sem,simprocAttr]
  try rfl
 ·rw[h3]
  simp -implicitDefEqProofs only[go_sem,simprocAttr,qy,w0,wt,h3];rw[zx];simp -implicitDefEqProofs only[go_sem,simprocAttr,m2,w1];rw[zx];simp -implicitDefEqProofs only[go_sem,simprocAttr]
  try rfl
 ·rw[h3]
  simp -implicitDefEqProofs only[go_sem,simprocAttr,qy,w0,wt,h3];rw[zx];simp -implicitDefEqProofs only[go_sem,simprocAttr,m2,w1];rw[zx];simp -implicitDefEqProofs only[go_sem,simprocAttr,m3,w2];rw[zx];simp -implicitDefEqProofs only[go_sem,simprocAttr]
  try rfl
def jj(t:List (Int×Int))(drop:Int)(ls:List Int)(v:Nat):Int:=v*crr (byS t drop ls) v
theorem zmd(t:List (Int×Int))(drop:Int)(ls:List Int)(v:Nat)(hv:v≤800):0≤jj t drop ls v∧jj t drop ls v≤160000:=by
 have hb:=zdz (byS t drop ls) v;have hp:0≤(v:Int)*crr (byS t drop ls) v∧(v:Int)*crr (byS t drop ls) v≤800*200:=⟨Int.mul_nonneg (by omega) hb.1,Int.mul_le_mul (by omega) hb.2 hb.1 (by decide)⟩;exact⟨hp.1,by unfold jj;omega⟩
theorem g22(bt:Bool)(t:List (Int×Int))(drop cells l0 l1 l2 tr wide:Int)(bv:Bool)(vs:List Int)(ls:List Int)(h:chOk t drop ls)(v:Nat)(hv:v≤800):(zu T).call 22 [qy bt t drop cells l0 l1 l2 tr wide bv vs,.sl true 1 (ls.map intV),.int .i64 v] [] 0 []=some (.tup [.int .i64 (jj t drop ls v),.bool true],[],0,[]):=by
 have e1:=g19 bt t h.t drop ls h.l1 h.l3;have e2:=g50 h v hv;have hb:=zmd t drop ls v hv;rw[show(v:Int)*crr (byS t drop ls) v=jj t drop ls v from rfl]at e2;have d1:decide (jj t drop ls v≥0)=true:=decide_eq_true hb.1;have d1':decide (0≤jj t drop ls v)=true:=decide_eq_true hb.1;have d2:decide (jj t drop ls v≤960000)=true:=decide_eq_true (by omega);simp only[yc,j4]at e1 e2;rw[xcz];simp -implicitDefEqProofs only[go_sem,simprocAttr,qy,e1,e2,d1,d1',d2]
theorem yqr:(zu T).call 90 [.int .i64 0] [] 0 []=some (.str [48],[],0,[]):=jf (.nil T) 100000 (by kernel_rfl)
theorem yqq:(zu T).call 90 [.int .i64 1] [] 0 []=some (.str [49],[],0,[]):=jf (.nil T) 100000 (by kernel_rfl)
theorem yqp:(zu T).call 90 [.int .i64 2] [] 0 []=some (.str [50],[],0,[]):=jf (.nil T) 100000 (by kernel_rfl)
variable (bt:Bool) (t:List (Int×Int)) (drop cells l0 l1 l2 tr wide:Int) (bv:Bool) (vs:List Int)
end Go.Den.FaT
end
