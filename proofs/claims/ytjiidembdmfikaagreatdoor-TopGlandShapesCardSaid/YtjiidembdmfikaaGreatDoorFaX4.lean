import Derived.Test.YtjiidembdmfikaaGreatDoorFaX1
import Derived.Test.YtjiidembdmfikaaGreatDoorZR
import Derived.Test.YtjiidembdmfikaaGreatDoorFaS0
set_option linter.all false
set_option maxHeartbeats 8000000
set_option maxRecDepth 100000
noncomputable section
namespace Go.Den.FaT
open Go Go.Proofs Go.Den
theorem yq3(p:Pk)(a0:List (Int×Int))(sb:Bool)(z:Nat)(st:List Int)(t:Nat)(c:Cz)(k:Nat)(j:Nat)(hj:c.c=(j:Int))(hjn:j<1)(x:List (Int×Int))(hx: [a0][j]? =some x)(hk:k<c.l.length)(hkx:k<x.length)(hc:c.l.length<1000000)(hxl:x.length<1000000):
  xu p [a0] sb z st t c k=xu p ([a0].set j (x.set k (qd x[k] c.l[k]))) sb z st t c (k+1):=by
 obtain⟨h1,h2,h3,h4,h5⟩:=zl hk (by omega);obtain⟨g1,g2,g3,g4,g5⟩:=zl hkx (by omega);have hs:∀v,(x.set k v)[k]? =some v:=fun v=>by rw[List.getElem?_set_self hkx]
 have hj':j=0:=by omega
 conv=>lhs;unfold xu;rw[zx]
 unfold xu;rcases hj' with rfl
 all_goals
  obtain rfl:=Option.some.inj hx;simp only[kc,List.length_cons,List.length_nil,Nat.reduceAdd,List.range_succ,List.range_zero,List.nil_append,List.cons_append,List.map_cons,List.map_nil,List.map_append,List.set_cons_zero,List.set_cons_succ,z5,czV,hj];simp -implicitDefEqProofs only[go_sem,simprocAttr,z5,h1,h2,h3,h4,g2,g3,hj,hkx,List.length_map,List.length_set,List.getElem?_map,qd,List.map_set,List.getElem?_set_self,List.set_set]
theorem yq2(p:Pk)(a0 a1:List (Int×Int))(sb:Bool)(z:Nat)(st:List Int)(t:Nat)(c:Cz)(k:Nat)(j:Nat)(hj:c.c=(j:Int))(hjn:j<2)(x:List (Int×Int))(hx: [a0,a1][j]? =some x)(hk:k<c.l.length)(hkx:k<x.length)(hc:c.l.length<1000000)(hxl:x.length<1000000):
  xu p [a0,a1] sb z st t c k=xu p ([a0,a1].set j (x.set k (qd x[k] c.l[k]))) sb z st t c (k+1):=by
 obtain⟨h1,h2,h3,h4,h5⟩:=zl hk (by omega);obtain⟨g1,g2,g3,g4,g5⟩:=zl hkx (by omega);have hs:∀v,(x.set k v)[k]? =some v:=fun v=>by rw[List.getElem?_set_self hkx]
 have hj':j=0∨j=1:=by omega
 conv=>lhs;unfold xu;rw[zx]
 unfold xu;rcases hj' with rfl|rfl
 all_goals
  obtain rfl:=Option.some.inj hx;simp only[kc,List.length_cons,List.length_nil,Nat.reduceAdd,List.range_succ,List.range_zero,List.nil_append,List.cons_append,List.map_cons,List.map_nil,List.map_append,List.set_cons_zero,List.set_cons_succ,z5,czV,hj];simp -implicitDefEqProofs only[go_sem,simprocAttr,z5,h1,h2,h3,h4,g2,g3,hj,hkx,List.length_map,List.length_set,List.getElem?_map,qd,List.map_set,List.getElem?_set_self,List.set_set]
theorem yq1(p:Pk)(a0 a1 a2:List (Int×Int))(sb:Bool)(z:Nat)(st:List Int)(t:Nat)(c:Cz)(k:Nat)(j:Nat)(hj:c.c=(j:Int))(hjn:j<3)(x:List (Int×Int))(hx: [a0,a1,a2][j]? =some x)(hk:k<c.l.length)(hkx:k<x.length)(hc:c.l.length<1000000)(hxl:x.length<1000000):
  xu p [a0,a1,a2] sb z st t c k=xu p ([a0,a1,a2].set j (x.set k (qd x[k] c.l[k]))) sb z st t c (k+1):=by
 obtain⟨h1,h2,h3,h4,h5⟩:=zl hk (by omega);obtain⟨g1,g2,g3,g4,g5⟩:=zl hkx (by omega);have hs:∀v,(x.set k v)[k]? =some v:=fun v=>by rw[List.getElem?_set_self hkx]
 have hj':j=0∨j=1∨j=2:=by omega
 conv=>lhs;unfold xu;rw[zx]
 unfold xu;rcases hj' with rfl|rfl|rfl
 all_goals
  obtain rfl:=Option.some.inj hx;simp only[kc,List.length_cons,List.length_nil,Nat.reduceAdd,List.range_succ,List.range_zero,List.nil_append,List.cons_append,List.map_cons,List.map_nil,List.map_append,List.set_cons_zero,List.set_cons_succ,z5,czV,hj];simp -implicitDefEqProofs only[go_sem,simprocAttr,z5,h1,h2,h3,h4,g2,g3,hj,hkx,List.length_map,List.length_set,List.getElem?_map,qd,List.map_set,List.getElem?_set_self,List.set_set]
theorem yq0(p:Pk)(a0 a1 a2 a3:List (Int×Int))(sb:Bool)(z:Nat)(st:List Int)(t:Nat)(c:Cz)(k:Nat)(j:Nat)(hj:c.c=(j:Int))(hjn:j<4)(x:List (Int×Int))(hx: [a0,a1,a2,a3][j]? =some x)(hk:k<c.l.length)(hkx:k<x.length)(hc:c.l.length<1000000)(hxl:x.length<1000000):
  xu p [a0,a1,a2,a3] sb z st t c k=xu p ([a0,a1,a2,a3].set j (x.set k (qd x[k] c.l[k]))) sb z st t c (k+1):=by
 obtain⟨h1,h2,h3,h4,h5⟩:=zl hk (by omega);obtain⟨g1,g2,g3,g4,g5⟩:=zl hkx (by omega);have hs:∀v,(x.set k v)[k]? =some v:=fun v=>by rw[List.getElem?_set_self hkx]
 have hj':j=0∨j=1∨j=2∨j=3:=by omega
 conv=>lhs;unfold xu;rw[zx]
 unfold xu;rcases hj' with rfl|rfl|rfl|rfl
 all_goals
  obtain rfl:=Option.some.inj hx;simp only[kc,List.length_cons,List.length_nil,Nat.reduceAdd,List.range_succ,List.range_zero,List.nil_append,List.cons_append,List.map_cons,List.map_nil,List.map_append,List.set_cons_zero,List.set_cons_succ,z5,czV,hj];simp -implicitDefEqProofs only[go_sem,simprocAttr,z5,h1,h2,h3,h4,g2,g3,hj,hkx,List.length_map,List.length_set,List.getElem?_map,qd,List.map_set,List.getElem?_set_self,List.set_set]
theorem yqz(p:Pk)(a0 a1 a2 a3 a4:List (Int×Int))(sb:Bool)(z:Nat)(st:List Int)(t:Nat)(c:Cz)(k:Nat)(j:Nat)(hj:c.c=(j:Int))(hjn:j<5)(x:List (Int×Int))(hx: [a0,a1,a2,a3,a4][j]? =some x)(hk:k<c.l.length)(hkx:k<x.length)(hc:c.l.length<1000000)(hxl:x.length<1000000):
  xu p [a0,a1,a2,a3,a4] sb z st t c k=xu p ([a0,a1,a2,a3,a4].set j (x.set k (qd x[k] c.l[k]))) sb z st t c (k+1):=by
 obtain⟨h1,h2,h3,h4,h5⟩:=zl hk (by omega);obtain⟨g1,g2,g3,g4,g5⟩:=zl hkx (by omega);have hs:∀v,(x.set k v)[k]? =some v:=fun v=>by rw[List.getElem?_set_self hkx]
 have hj':j=0∨j=1∨j=2∨j=3∨j=4:=by omega
 conv=>lhs;unfold xu;rw[zx]
 unfold xu;rcases hj' with rfl|rfl|rfl|rfl|rfl
 all_goals
  obtain rfl:=Option.some.inj hx;simp only[kc,List.length_cons,List.length_nil,Nat.reduceAdd,List.range_succ,List.range_zero,List.nil_append,List.cons_append,List.map_cons,List.map_nil,List.map_append,List.set_cons_zero,List.set_cons_succ,z5,czV,hj];simp -implicitDefEqProofs only[go_sem,simprocAttr,z5,h1,h2,h3,h4,g2,g3,hj,hkx,List.length_map,List.length_set,List.getElem?_map,qd,List.map_set,List.getElem?_set_self,List.set_set]
theorem yqy(p:Pk)(a0 a1 a2 a3 a4 a5:List (Int×Int))(sb:Bool)(z:Nat)(st:List Int)(t:Nat)(c:Cz)(k:Nat)(j:Nat)(hj:c.c=(j:Int))(hjn:j<6)(x:List (Int×Int))(hx: [a0,a1,a2,a3,a4,a5][j]? =some x)(hk:k<c.l.length)(hkx:k<x.length)(hc:c.l.length<1000000)(hxl:x.length<1000000):
  xu p [a0,a1,a2,a3,a4,a5] sb z st t c k=xu p ([a0,a1,a2,a3,a4,a5].set j (x.set k (qd x[k] c.l[k]))) sb z st t c (k+1):=by
 obtain⟨h1,h2,h3,h4,h5⟩:=zl hk (by omega);obtain⟨g1,g2,g3,g4,g5⟩:=zl hkx (by omega);have hs:∀v,(x.set k v)[k]? =some v:=fun v=>by rw[List.getElem?_set_self hkx]
 have hj':j=0∨j=1∨j=2∨j=3∨j=4∨j=5:=by omega
 conv=>lhs;unfold xu;rw[zx]
 unfold xu;rcases hj' with rfl|rfl|rfl|rfl|rfl|rfl
 all_goals
  obtain rfl:=Option.some.inj hx;simp only[kc,List.length_cons,List.length_nil,Nat.reduceAdd,List.range_succ,List.range_zero,List.nil_append,List.cons_append,List.map_cons,List.map_nil,List.map_append,List.set_cons_zero,List.set_cons_succ,z5,czV,hj];simp -implicitDefEqProofs only[go_sem,simprocAttr,z5,h1,h2,h3,h4,g2,g3,hj,hkx,List.length_map,List.length_set,List.getElem?_map,qd,List.map_set,List.getElem?_set_self,List.set_set]
theorem yqx(p:Pk)(a0 a1 a2 a3 a4 a5 a6:List (Int×Int))(sb:Bool)(z:Nat)(st:List Int)(t:Nat)(c:Cz)(k:Nat)(j:Nat)(hj:c.c=(j:Int))(hjn:j<7)(x:List (Int×Int))(hx: [a0,a1,a2,a3,a4,a5,a6][j]? =some x)(hk:k<c.l.length)(hkx:k<x.length)(hc:c.l.length<1000000)(hxl:x.length<1000000):
  xu p [a0,a1,a2,a3,a4,a5,a6] sb z st t c k=xu p ([a0,a1,a2,a3,a4,a5,a6].set j (x.set k (qd x[k] c.l[k]))) sb z st t c (k+1):=by
 obtain⟨h1,h2,h3,h4,h5⟩:=zl hk (by omega);obtain⟨g1,g2,g3,g4,g5⟩:=zl hkx (by omega);have hs:∀v,(x.set k v)[k]? =some v:=fun v=>by rw[List.getElem?_set_self hkx]
 have hj':j=0∨j=1∨j=2∨j=3∨j=4∨j=5∨j=6:=by omega
 conv=>lhs;unfold xu;rw[zx]
 unfold xu;rcases hj' with rfl|rfl|rfl|rfl|rfl|rfl|rfl
 all_goals
  obtain rfl:=Option.some.inj hx;simp only[kc,List.length_cons,List.length_nil,Nat.reduceAdd,List.range_succ,List.range_zero,List.nil_append,List.cons_append,List.map_cons,List.map_nil,List.map_append,List.set_cons_zero,List.set_cons_succ,z5,czV,hj];simp -implicitDefEqProofs only[go_sem,simprocAttr,z5,h1,h2,h3,h4,g2,g3,hj,hkx,List.length_map,List.length_set,List.getElem?_map,qd,List.map_set,List.getElem?_set_self,List.set_set]
theorem yqw(p:Pk)(a0 a1 a2 a3 a4 a5 a6 a7:List (Int×Int))(sb:Bool)(z:Nat)(st:List Int)(t:Nat)(c:Cz)(k:Nat)(j:Nat)(hj:c.c=(j:Int))(hjn:j<8)(x:List (Int×Int))(hx: [a0,a1,a2,a3,a4,a5,a6,a7][j]? =some x)(hk:k<c.l.length)(hkx:k<x.length)(hc:c.l.length<1000000)(hxl:x.length<1000000):
  xu p [a0,a1,a2,a3,a4,a5,a6,a7] sb z st t c k=xu p ([a0,a1,a2,a3,a4,a5,a6,a7].set j (x.set k (qd x[k] c.l[k]))) sb z st t c (k+1):=by
 obtain⟨h1,h2,h3,h4,h5⟩:=zl hk (by omega);obtain⟨g1,g2,g3,g4,g5⟩:=zl hkx (by omega);have hs:∀v,(x.set k v)[k]? =some v:=fun v=>by rw[List.getElem?_set_self hkx]
 have hj':j=0∨j=1∨j=2∨j=3∨j=4∨j=5∨j=6∨j=7:=by omega
 conv=>lhs;unfold xu;rw[zx]
 unfold xu;rcases hj' with rfl|rfl|rfl|rfl|rfl|rfl|rfl|rfl
 all_goals
  obtain rfl:=Option.some.inj hx;simp only[kc,List.length_cons,List.length_nil,Nat.reduceAdd,List.range_succ,List.range_zero,List.nil_append,List.cons_append,List.map_cons,List.map_nil,List.map_append,List.set_cons_zero,List.set_cons_succ,z5,czV,hj];simp -implicitDefEqProofs only[go_sem,simprocAttr,z5,h1,h2,h3,h4,g2,g3,hj,hkx,List.length_map,List.length_set,List.getElem?_map,qd,List.map_set,List.getElem?_set_self,List.set_set]
theorem zfo{α:Type}{R:List α}(h:0<R.length)(h8:R.length≤8):(∃a0,R= [a0])∨(∃a0 a1,R= [a0,a1])∨(∃a0 a1 a2,R= [a0,a1,a2])∨(∃a0 a1 a2 a3,R= [a0,a1,a2,a3])∨(∃a0 a1 a2 a3 a4,R= [a0,a1,a2,a3,a4])∨(∃a0 a1 a2 a3 a4 a5,R= [a0,a1,a2,a3,a4,a5])∨(∃a0 a1 a2 a3 a4 a5 a6,R= [a0,a1,a2,a3,a4,a5,a6])∨(∃a0 a1 a2 a3 a4 a5 a6 a7,R= [a0,a1,a2,a3,a4,a5,a6,a7]):=by
 match R,h,h8 with
 | [a0],_,_=>exact .inl ⟨a0,rfl⟩
 | [a0,a1],_,_=>exact .inr (.inl ⟨a0,a1,rfl⟩)
 | [a0,a1,a2],_,_=>exact .inr (.inr (.inl ⟨a0,a1,a2,rfl⟩))
 | [a0,a1,a2,a3],_,_=>exact .inr (.inr (.inr (.inl ⟨a0,a1,a2,a3,rfl⟩)))
 | [a0,a1,a2,a3,a4],_,_=>exact .inr (.inr (.inr (.inr (.inl ⟨a0,a1,a2,a3,a4,rfl⟩))))
 | [a0,a1,a2,a3,a4,a5],_,_=>exact .inr (.inr (.inr (.inr (.inr (.inl ⟨a0,a1,a2,a3,a4,a5,rfl⟩)))))
 | [a0,a1,a2,a3,a4,a5,a6],_,_=>exact .inr (.inr (.inr (.inr (.inr (.inr (.inl ⟨a0,a1,a2,a3,a4,a5,a6,rfl⟩))))))
 | [a0,a1,a2,a3,a4,a5,a6,a7],_,_=>exact .inr (.inr (.inr (.inr (.inr (.inr (.inr ⟨a0,a1,a2,a3,a4,a5,a6,a7,rfl⟩))))))
 |_::_::_::_::_::_::_::_::_::_,_,h=>exact absurd h (by simp only[List.length_cons];omega)
theorem yq4(p:Pk)(R:List (List (Int×Int)))(h0:0<R.length)(h8:R.length≤8)(sb:Bool)(z:Nat)(st:List Int)(t:Nat)(c:Cz)(k:Nat)(j:Nat)(hj:c.c=(j:Int))(hjn:j<R.length)(x:List (Int×Int))(hx:R[j]? =some x)(hk:k<c.l.length)(hkx:k<x.length)(hc:c.l.length<1000000)(hxl:x.length<1000000):
  xu p R sb z st t c k=xu p (R.set j (x.set k (qd x[k] c.l[k]))) sb z st t c (k+1):=by
 rcases zfo h0 h8 with⟨a0,rfl⟩|⟨a0,a1,rfl⟩|⟨a0,a1,a2,rfl⟩|⟨a0,a1,a2,a3,rfl⟩|⟨a0,a1,a2,a3,a4,rfl⟩|⟨a0,a1,a2,a3,a4,a5,rfl⟩|⟨a0,a1,a2,a3,a4,a5,a6,rfl⟩|⟨a0,a1,a2,a3,a4,a5,a6,a7,rfl⟩
 ·exact yq3 p a0 sb z st t c k j hj hjn x hx hk hkx hc hxl
 ·exact yq2 p a0 a1 sb z st t c k j hj hjn x hx hk hkx hc hxl
 ·exact yq1 p a0 a1 a2 sb z st t c k j hj hjn x hx hk hkx hc hxl
 ·exact yq0 p a0 a1 a2 a3 sb z st t c k j hj hjn x hx hk hkx hc hxl
 ·exact yqz p a0 a1 a2 a3 a4 sb z st t c k j hj hjn x hx hk hkx hc hxl
 ·exact yqy p a0 a1 a2 a3 a4 a5 sb z st t c k j hj hjn x hx hk hkx hc hxl
 ·exact yqx p a0 a1 a2 a3 a4 a5 a6 sb z st t c k j hj hjn x hx hk hkx hc hxl
 ·exact yqw p a0 a1 a2 a3 a4 a5 a6 a7 sb z st t c k j hj hjn x hx hk hkx hc hxl
def ja(x l:List (Int×Int)):List (Int×Int):=List.zipWith qd x l
def part(x l:List (Int×Int))(k:Nat):List (Int×Int):=(ja x l).take k++x.drop k
theorem zf5{x l:List (Int×Int)}(h:x.length=l.length):(ja x l).length=l.length:=by simp[ja,h]
theorem ytf{x l:List (Int×Int)}(h:x.length=l.length)(k:Nat)(hk:k≤l.length):(part x l k).length=l.length:=by
 simp[part,zf5 h];omega
theorem ytg{x l:List (Int×Int)}(h:x.length=l.length)(k:Nat)(hk:k<l.length):(part x l k)[k]? =some (x[k]'(by omega)):=by
 unfold part;have:((ja x l).take k).length=k:=by simp[zf5 h];omega
 rw[List.getElem?_append_right (by omega),this,Nat.sub_self,List.getElem?_drop,Nat.add_zero,List.getElem?_eq_getElem (by omega)]
theorem yte{x l:List (Int×Int)}(h:x.length=l.length)(k:Nat)(hk:k<l.length):(part x l k).set k (qd (x[k]'(by omega)) l[k])=part x l (k+1):=by
 unfold part;have h1:((ja x l).take k).length=k:=by simp[zf5 h];omega
 rw[List.set_append_right _ _ (by omega),h1,Nat.sub_self,List.drop_eq_getElem_cons (show k<x.length by omega),List.set_cons_zero,List.take_succ_eq_append_getElem (by rw[zf5 h];exact hk),List.append_assoc];congr 1;simp[ja]
theorem ywv(p:Pk)(R:List (List (Int×Int)))(h0:0<R.length)(h8:R.length≤8)(sb:Bool)(z:Nat)(st:List Int)(t:Nat)(c:Cz)(j:Nat)(hj:c.c=(j:Int))(hjn:j<R.length)(x:List (Int×Int))(hxl:x.length=c.l.length)(hc:c.l.length<1000000):∀k,k≤c.l.length→
  xu p (R.set j (part x c.l k)) sb z st t c k=xu p (R.set j (ja x c.l)) sb z st t c c.l.length:=by
 refine xq c.l.length ?_ fun k hk ih=> ?_
 ·have:part x c.l c.l.length=ja x c.l:=by
   unfold part;rw[List.take_of_length_le (by rw[zf5 hxl];exact Nat.le_refl _),List.drop_of_length_le (by omega),List.append_nil]
  rw[this]
 ·rw[←ih,←yte hxl k hk]
  have hl:=ytf hxl k (by omega);have hg:=ytg hxl k hk;have hkk:k<(part x c.l k).length:=by omega
  have hg2:(part x c.l k)[k]=x[k]'(by omega):=by
   have:=hg;rw[List.getElem?_eq_getElem hkk]at this;exact Option.some.inj this
  rw[yq4 p (R.set j (part x c.l k)) (by simpa using h0) (by simpa using h8) sb z st t c k j hj (by simpa using hjn) (part x c.l k) (by rw[List.getElem?_set_self (by simpa using hjn)]) hk hkk hc (by omega),List.set_set,hg2]
def za6(p:Pk)(R:List (List (Int×Int)))(sb:Bool)(z:Nat)(st:List Int)(t:Nat):Option Out:=
 (zu T).loop false [.code (.loop zf0),.inBlock 0,.code (.seq zgx .ret)]
  ⟨146,64,0,[(2,.ptr 0 0 0),(5,.ref 1),(14,.sl sb z (st.map intV)),(15,.int .i64 st.length),(16,.int .i64 t)],
   .cells true true 44 [z5 p]:: .cells false false 52 (kc R.length)::R.map (fun l=> .cells false true 56 (l.map j5)),0,[]⟩
def km(r:Bool×List (Int×Int)):V:= .sl r.1 2 (r.2.map j5)
attribute [go_sem] km
def rvT(l:List (Int×Int)):Bool×List (Int×Int):=(true,l)
theorem xa7(p:Pk)(R:List (List (Int×Int)))(h0:0<R.length)(h8:R.length≤8)(sb:Bool)(z:Nat)(st:List Int)(t:Nat)(ht:t<1000000)(c:Cz):xu p R sb z st t c c.l.length=za6 p R sb z st (t+1):=by
 have h1:=z8 c.l.length;have h4:IntKind.i64.wrap ((t:Int)+1)=((t+1:Nat):Int):=by rw[wrap64]<;>omega
 unfold xu za6;rw[zx];rcases zfo h0 h8 with⟨a0,rfl⟩|⟨a0,a1,rfl⟩|⟨a0,a1,a2,rfl⟩|⟨a0,a1,a2,a3,rfl⟩|⟨a0,a1,a2,a3,a4,rfl⟩|⟨a0,a1,a2,a3,a4,a5,rfl⟩|⟨a0,a1,a2,a3,a4,a5,a6,rfl⟩|⟨a0,a1,a2,a3,a4,a5,a6,a7,rfl⟩
 all_goals
  simp only[kc,List.length_cons,List.length_nil,Nat.reduceAdd,List.range_succ,List.range_zero,List.nil_append,List.cons_append,List.map_cons,List.map_nil,List.map_append,z5,czV];simp -implicitDefEqProofs only[go_sem,simprocAttr,h1,h4]
theorem yy8(p:Pk)(R:List (List (Int×Int)))(h0:0<R.length)(h8:R.length≤8)(sb:Bool)(st:List Int)(t:Nat)(ht:t<st.length)(hs:st.length<1000000)(c:Cz)(hd:decide (0≤st[t]∧st[t]<(p.c.length:Int))=true)(hc:p.c[st[t].toNat]? =some c):za6 p R sb 1 st t=xu p R sb 1 st t c 0:=by
 obtain⟨h1,h2,h3,h4,h5⟩:=zl ht (by omega)
 conv=>lhs;unfold za6;rw[zx]
 unfold xu;rw[show((0:Nat):Int)=0 from rfl];rcases zfo h0 h8 with⟨a0,rfl⟩|⟨a0,a1,rfl⟩|⟨a0,a1,a2,rfl⟩|⟨a0,a1,a2,a3,rfl⟩|⟨a0,a1,a2,a3,a4,rfl⟩|⟨a0,a1,a2,a3,a4,a5,rfl⟩|⟨a0,a1,a2,a3,a4,a5,a6,rfl⟩|⟨a0,a1,a2,a3,a4,a5,a6,a7,rfl⟩
 all_goals
  simp only[kc,List.length_cons,List.length_nil,Nat.reduceAdd,List.range_succ,List.range_zero,List.nil_append,List.cons_append,List.map_cons,List.map_nil,List.map_append,z5,czV];simp -implicitDefEqProofs only[go_sem,simprocAttr,h1,h2,h3,hd,hc]
theorem xek(p:Pk)(R:List (List (Int×Int)))(h0:0<R.length)(h8:R.length≤8)(sb:Bool)(z:Nat)(st:List Int):za6 p R sb z st st.length=some (.ret (.sl true 1 ((R.map rvT).map km)),[],0,[]):=by
 have h1:=z8 st.length;unfold za6;rw[zx];rcases zfo h0 h8 with⟨a0,rfl⟩|⟨a0,a1,rfl⟩|⟨a0,a1,a2,rfl⟩|⟨a0,a1,a2,a3,rfl⟩|⟨a0,a1,a2,a3,a4,rfl⟩|⟨a0,a1,a2,a3,a4,a5,rfl⟩|⟨a0,a1,a2,a3,a4,a5,a6,rfl⟩|⟨a0,a1,a2,a3,a4,a5,a6,a7,rfl⟩
 all_goals
  simp only[kc,List.length_cons,List.length_nil,Nat.reduceAdd,List.range_succ,List.range_zero,List.nil_append,List.cons_append,List.map_cons,List.map_nil,List.map_append,z5,rvT];simp -implicitDefEqProofs only[go_sem,simprocAttr,h1]
def lsF:List (Nat×List (Int×Int))→List (List (Int×Int))→List (List (Int×Int))
 | [],R=>R
 |c::cs,R=>lsF cs (R.set c.1 (ja (R.getD c.1 []) c.2))
def lossF(i k:Nat):List (Nat×List (Int×Int))→Int×Int→Int×Int
 | [],x=>x
 |c::cs,x=>lossF i k cs (if c.1=i then qd x (c.2.getD k (0,0))else x)
def tab{α:Type}(n s:Nat)(f:Nat→Nat→α):List (List α):=(List.range n).map fun i=>(List.range s).map fun k=>f i k
theorem yvu:∀(cs:List (Nat×List (Int×Int))) (R:List (List (Int×Int))),(lsF cs R).length=R.length:=by
 intro cs
 induction cs with
 |nil=>intro R;rfl
 |cons c cs ih=>intro R;simp only[lsF];rw[ih,List.length_set]
theorem zpg{R:List (List (Int×Int))}{s j:Nat}{l:List (Int×Int)}(hR:∀x∈R,x.length=s)(hj:j<R.length)(hl:l.length=s):∀x∈R.set j (ja (R.getD j []) l),x.length=s:=by
 intro x hx
 have hm:(R.getD j [])∈R:=by
  rw[List.getD_eq_getElem?_getD,List.getElem?_eq_getElem hj];exact List.getElem_mem hj
 rcases List.mem_or_eq_of_mem_set hx with h|h
 ·exact hR x h
 ·rw[h];unfold ja;rw[List.length_zipWith,hR _ hm,hl,Nat.min_self]
theorem tab_self{R:List (List (Int×Int))}{s:Nat}(hR:∀x∈R,x.length=s):R=tab R.length s fun i k=>(R.getD i []).getD k (0,0):=by
 unfold tab;apply List.ext_getElem
 ·simp
 ·intro i h1 h2
  have hs:=hR _ (List.getElem_mem h1);simp only[List.getElem_map,List.getElem_range];apply List.ext_getElem
  ·simp[hs]
  ·intro k h3 h4
   simp[List.getD_eq_getElem?_getD,List.getElem?_eq_getElem h1,List.getElem?_eq_getElem h3]
theorem yvt(s:Nat):∀(cs:List (Nat×List (Int×Int))) (R:List (List (Int×Int))),(∀x∈R,x.length=s)→(∀c∈cs,c.1<R.length∧c.2.length=s)→
  lsF cs R=tab R.length s fun i k=>lossF i k cs ((R.getD i []).getD k (0,0)):=by
 intro cs
 induction cs with
 |nil=>intro R hR _;exact tab_self hR
 |cons c cs ih=>
  intro R hR hc;obtain⟨c1,c2⟩:=hc c (by simp);simp only[lsF];rw[ih _ (zpg hR c1 c2) (fun d hd=>by rw[List.length_set];exact hc d (by simp[hd])),List.length_set];unfold tab;apply List.map_congr_left;intro i hi;rw[List.mem_range]at hi;apply List.map_congr_left;intro k hk;rw[List.mem_range]at hk;simp only[lossF];congr 1;by_cases h:c.1=i
  ·subst h
   have e1:(R.set c.1 (ja (R.getD c.1 []) c.2)).getD c.1 []=ja (R.getD c.1 []) c.2:=by
    rw[List.getD_eq_getElem?_getD,List.getElem?_set_self hi];rfl
   rw[e1,if_pos rfl];have e2:(R.getD c.1 []).length=s:=hR _ (by rw[List.getD_eq_getElem?_getD,List.getElem?_eq_getElem hi];exact List.getElem_mem hi);generalize R.getD c.1 []=y at e2⊢;unfold ja;simp only[List.getD_eq_getElem?_getD,List.getElem?_zipWith];have q1:y[k]? =some (y[k]'(by omega)):=List.getElem?_eq_getElem _;have q2:c.2[k]? =some (c.2[k]'(by omega)):=List.getElem?_eq_getElem _;rw[q1,q2];rfl
  ·have e1:(R.set c.1 (ja (R.getD c.1 []) c.2)).getD i []=R.getD i []:=by
    rw[List.getD_eq_getElem?_getD,List.getElem?_set_ne h,←List.getD_eq_getElem?_getD]
   rw[e1,if_neg h]
def ka(nz n:Int)(x:Int×Int):Bool:=decide (n<Go.IntKind.i64.wrap (x.1- nz))||decide (Go.IntKind.i64.wrap (x.2+nz)<n)
def rowP(nz:Int)(i:Nat):Nat→List Int→List (Int×Int)→List (Int×Int)
 |k,n::r,x::l=>bif ka nz n x then((i:Int),(k:Int))::rowP nz i (k+1) r l else rowP nz i (k+1) r l
 |_,_,_=> []
def allP(nz:Int):Nat→List (List Int)→List (List (Int×Int))→List (Int×Int)
 |i,r::R,l::L=>rowP nz i 0 r l++allP nz (i+1) R L
 |_,_,_=> []
theorem yr4(nz:Int)(i:Nat):∀(r:List Int) (k:Nat) (l:List (Int×Int)),(rowP nz i k r l).length≤r.length:=by
 intro r
 induction r with
 |nil=>intro k l;simp[rowP]
 |cons n r ih=>
  intro k l;cases l with
  |nil=>simp[rowP]
  |cons x l=>
   simp only[rowP];cases ka nz n x
   ·simp;exact Nat.le_succ_of_le (ih _ _)
   ·simp;exact ih _ _
theorem xiz(nz:Int)(s:Nat):∀(R:List (List Int)) (i:Nat) (L:List (List (Int×Int))),(∀r∈R,r.length≤s)→(allP nz i R L).length≤R.length*s:=by
 intro R
 induction R with
 |nil=>intro i L h;simp[allP]
 |cons r R ih=>
  intro i L h;cases L with
  |nil=>simp[allP]
  |cons l L=>
   simp only[allP,List.length_append,List.length_cons];have h1:=yr4 nz i r 0 l;have h2:=h r (by simp);have h3:=ih (i+1) L (fun x hx=>h x (by simp[hx]));rw[Nat.add_mul];omega
def cPr(c:Cz):Nat×List (Int×Int):=(c.c.toNat,c.l)
def kg(p:Pk)(i:Int):Cz:=(p.c[i.toNat]?).getD ⟨[],0,false,[]⟩
def csq(p:Pk)(st:List Int):List (Nat×List (Int×Int)):=st.map fun i=>cPr (kg p i)
def ls0(p:Pk):List (List (Int×Int)):=p.v.map fun r=>z0 r.2.length
def lss(p:Pk)(st:List Int):List (List (Int×Int)):=lsF (csq p st) (ls0 p)
abbrev k5(p:Pk)(st:List Int):Prop:=∀i∈st,0≤i∧i<(p.c.length:Int)
theorem yn1{p:Pk}(ho:Ok p){i:Int}(h:0≤i∧i<(p.c.length:Int)):p.c[i.toNat]? =some (kg p i)∧0≤(kg p i).c∧(kg p i).c<p.v.length∧(kg p i).l.length=xr p:=by
 have hlt:i.toNat<p.c.length:=by omega
 have hg:p.c[i.toNat]? =some p.c[i.toNat]:=List.getElem?_eq_getElem hlt;have hc:kg p i=p.c[i.toNat]:=by unfold kg;rw[hg];rfl
 rw[hc];exact⟨hg,ho.ca _ (List.getElem_mem hlt)⟩
theorem yth(x l:List (Int×Int)):part x l 0=x:=by simp[part]
theorem yww(p:Pk)(ho:Ok p)(sb:Bool)(z:Nat)(st:List Int)(hs:st.length<1000000)(hv:k5 p st)(hz:st≠ []→z=1):∀t,t≤st.length→∀R,R.length=p.v.length→(∀x∈R,x.length=xr p)→
  za6 p R sb z st t=za6 p (lsF (csq p (st.drop t)) R) sb z st st.length:=by
 refine xq st.length ?_ fun t ht ih=> ?_
 ·intro R _ _
  rw[List.drop_of_length_le (Nat.le_refl _)];rfl
 ·intro R hR hx
  obtain⟨h1,h2,h3,h4,h5⟩:=zl ht (by omega);have hz1:=hz (fun e=>by rw[e]at ht;cases ht);subst hz1;have hi:=hv _ (List.getElem_mem ht);obtain⟨hg,k1,k2,k3⟩:=yn1 ho hi;have v1:=ho.v1;have v8:=ho.v8;have s8:=ho.s8;have r0:0<R.length:=by omega
  have r8:R.length≤8:=by omega
  have hjR:(kg p st[t]).c.toNat<R.length:=by omega
  have hxj:=hx _ (List.getElem_mem hjR);have e:=ywv p R r0 r8 sb 1 st t (kg p st[t]) (kg p st[t]).c.toNat (by omega) hjR R[(kg p st[t]).c.toNat] (by rw[hxj,k3]) (by omega) 0 (by omega);rw[yth,List.set_getElem_self]at e;rw[yy8 p R r0 r8 sb st t ht hs _ (decide_eq_true hi) hg,e,xa7 p _ (by rw[List.length_set];exact r0) (by rw[List.length_set];exact r8) sb 1 st t (by omega) _];have hgd:R.getD (kg p st[t]).c.toNat []=R[(kg p st[t]).c.toNat]:=by rw[List.getD_eq_getElem?_getD,List.getElem?_eq_getElem hjR];rfl
  have hs2:=zpg (l:=(kg p st[t]).l) hx hjR k3;rw[hgd]at hs2;rw[ih _ (by rw[List.length_set];exact hR) hs2,h5];simp only[csq,List.map_cons,lsF,cPr,hgd]
theorem zhi(p:Pk):(ls0 p).length=p.v.length:=by simp[ls0]
theorem ylm{p:Pk}(ho:Ok p):∀x∈ls0 p,x.length=xr p:=by
 intro x hx;obtain⟨r,hr,rfl⟩:=List.mem_map.1 hx;simp[z0,ho.row r hr]
theorem yll(p:Pk)(st:List Int):(lss p st).length=p.v.length:=by unfold lss;rw[yvu,zhi]
theorem xhw(p:Pk)(ho:Ok p)(sb:Bool)(z:Nat)(st:List Int)(hs:st.length<1000000)(hv:k5 p st)(hz:st≠ []→z=1):(zu T).call 146 [z5 p,.sl sb z (st.map intV)] [] 0 []=some (.sl true 1 (((lss p st).map rvT).map km),[],0,[]):=by
 have v1:=ho.v1;have v8:=ho.v8;have s8:=ho.s8;have hrow:∀r∈p.v,r.2.length<1000:=fun r hr=>by rw[ho.row r hr];omega
 have h:=yww p ho sb z st hs hv hz 0 (by omega) (ls0 p) (zhi p) (ylm ho);rw[List.drop_zero]at h;have hE:=xek p (lss p st) (by rw[yll];exact v1) (by rw[yll];exact v8) sb z st;rw[show lsF (csq p st) (ls0 p)=lss p st from rfl,hE]at h;clear hE hv;generalize hL:V.sl true 1 (((lss p st).map rvT).map km)=res at h⊢;clear hL;unfold za6 ls0 at h;clear ho;obtain⟨vb,v,n,cb,c⟩:=p;simp only at v1 v8 hrow h;rw[xdw];rcases zfo v1 v8 with⟨a0,rfl⟩|⟨a0,a1,rfl⟩|⟨a0,a1,a2,rfl⟩|⟨a0,a1,a2,a3,rfl⟩|⟨a0,a1,a2,a3,a4,rfl⟩|⟨a0,a1,a2,a3,a4,a5,rfl⟩|⟨a0,a1,a2,a3,a4,a5,a6,rfl⟩|⟨a0,a1,a2,a3,a4,a5,a6,a7,rfl⟩
 all_goals simp only[kc,List.length_cons,List.length_nil,Nat.reduceAdd,List.range_succ,List.range_zero,List.nil_append,List.cons_append,List.map_cons,List.map_nil,List.map_append,z5,rwV,show((0:Nat):Int)=0 from rfl]at h
 ·simp -implicitDefEqProofs only[go_sem,simprocAttr,z5,xhe vb a0 (hrow a0 (by simp)),h]
 ·simp -implicitDefEqProofs only[go_sem,simprocAttr,z5,xhd vb a0 a1 (hrow a0 (by simp)) (hrow a1 (by simp)),h]
 ·simp -implicitDefEqProofs only[go_sem,simprocAttr,z5,xhc vb a0 a1 a2 (hrow a0 (by simp)) (hrow a1 (by simp)) (hrow a2 (by simp)),h]
 ·simp -implicitDefEqProofs only[go_sem,simprocAttr,z5,xhb vb a0 a1 a2 a3 (hrow a0 (by simp)) (hrow a1 (by simp)) (hrow a2 (by simp)) (hrow a3 (by simp)),h]
 ·simp -implicitDefEqProofs only[go_sem,simprocAttr,z5,xha vb a0 a1 a2 a3 a4 (hrow a0 (by simp)) (hrow a1 (by simp)) (hrow a2 (by simp)) (hrow a3 (by simp)) (hrow a4 (by simp)),h]
 ·simp -implicitDefEqProofs only[go_sem,simprocAttr,z5,xg9 vb a0 a1 a2 a3 a4 a5 (hrow a0 (by simp)) (hrow a1 (by simp)) (hrow a2 (by simp)) (hrow a3 (by simp)) (hrow a4 (by simp)) (hrow a5 (by simp)),h]
 ·simp -implicitDefEqProofs only[go_sem,simprocAttr,z5,xg8 vb a0 a1 a2 a3 a4 a5 a6 (hrow a0 (by simp)) (hrow a1 (by simp)) (hrow a2 (by simp)) (hrow a3 (by simp)) (hrow a4 (by simp)) (hrow a5 (by simp)) (hrow a6 (by simp)),h]
 ·simp -implicitDefEqProofs only[go_sem,simprocAttr,z5,xg7 vb a0 a1 a2 a3 a4 a5 a6 a7 (hrow a0 (by simp)) (hrow a1 (by simp)) (hrow a2 (by simp)) (hrow a3 (by simp)) (hrow a4 (by simp)) (hrow a5 (by simp)) (hrow a6 (by simp)) (hrow a7 (by simp)),h]
theorem yvx(i k:Nat)(c:Nat×List (Int×Int))(cs:List (Nat×List (Int×Int)))(x:Int×Int):lossF i k (c::cs) x=lossF i k cs (if c.1=i then qd x (c.2.getD k (0,0))else x):=rfl
def lsA(p:Pk)(st:List Int)(i k:Nat):Int×Int:=lossF i k (csq p st) (0,0)
def ux(p:Pk)(st:List Int)(i:Nat):List (Int×Int):=(List.range (xr p)).map (lsA p st i)
theorem yvs(p:Pk)(st:List Int)(i:Nat):(ux p st i).length=xr p:=by simp[ux]
theorem yrb{p:Pk}(ho:Ok p):∃r0,p.v[0]? =some r0∧r0.2.length=xr p∧decide (0<(p.v.length:Int))=true:=by
 obtain⟨r0,h1,h2,h3⟩:=zpf ho;exact⟨r0,h1,by rw[h2,zex],h3⟩
def ya(p:Pk)(st:List Int):List (List (Int×Int)):=(List.range p.v.length).map (ux p st)
theorem yvr(p:Pk)(ho:Ok p)(st:List Int)(hv:k5 p st):lss p st=ya p st:=by
 unfold lss
 rw[yvt (xr p) (csq p st) (ls0 p) (ylm ho) (fun c hc=>by
  obtain⟨i,hi,rfl⟩:=List.mem_map.1 hc;obtain⟨hg,k1,k2,k3⟩:=yn1 ho (hv i hi);exact⟨by rw[zhi];simp only[cPr];omega,k3⟩),zhi]
 unfold tab ya ux;apply List.map_congr_left;intro i hi;rw[List.mem_range]at hi;apply List.map_congr_left;intro k hk;rw[List.mem_range]at hk;unfold lsA;congr 1;have hr:=ho.row _ (List.getElem_mem hi);simp[ls0,z0,List.getD_eq_getElem?_getD,List.getElem?_eq_getElem hi,List.getElem?_replicate,hr,hk]
theorem zbl(a b:Int):decide (a>b)=decide (b<a):=rfl
theorem yvq{p:Pk}(st:List Int):∀l∈(ya p st).map rvT,l.2.length=xr p:=by
 intro l hl;obtain⟨x,hx,rfl⟩:=List.mem_map.1 hl;obtain⟨i,hi,rfl⟩:=List.mem_map.1 hx;exact yvs p st i
def zec(p:Pk)(rb lb:Bool)(R:List (Bool×List Int))(L:List (Bool×List (Int×Int)))(d:Nat)(S:xb)(i:Nat):Option Out:=
 (zu T).loop false [.code (.loop zfz),.inBlock 0]
  ⟨147,57,0,[(0,.yld d),(2,.pp 1 [.sl lb 1 (L.map km)] 0 0),(3,.pp 3 [z5 p] 0 0),(10,.sl rb 1 (R.map rwV)),(11,.int .i64 R.length),(12,.int .i64 i)],[],0,S⟩
def yu(p:Pk)(rb lb:Bool)(R:List (Bool×List Int))(L:List (Bool×List (Int×Int)))(d:Nat)(S:xb)(i:Nat)(r:Bool×List Int)(k:Nat):Option Out:=
 (zu T).loop false [.code (.loop zjo),.inBlock 2,.inBlock 1,.code zlv,.inLoop zfz,.inBlock 0]
  ⟨147,57,0,[(0,.yld d),(2,.pp 1 [.sl lb 1 (L.map km)] 0 0),(3,.pp 3 [z5 p] 0 0),(5,.int .i64 i),(10,.sl rb 1 (R.map rwV)),(11,.int .i64 R.length),(12,.int .i64 i),(17,.sl r.1 1 (r.2.map intV)),(18,.int .i64 r.2.length),(19,.int .i64 k)],[],0,S⟩
theorem ywg(p:Pk)(rb lb:Bool)(R:List (Bool×List Int))(L:List (Bool×List (Int×Int)))(d:Nat)(i:Nat)(hi:i<R.length)(hR:R.length≤8)(hL:L.length=R.length)(r:Bool×List Int)(hr:R[i]? =some r)(l:Bool×List (Int×Int))(hl:L[i]? =some l)(hrl:r.2.length=l.2.length)(hr8:r.2.length≤8)
  (rest:List V)(hrest:∀S S' b,qj T d rest S=some (b,S')→zec p rb lb R L d S (i+1)=some (.ret (.tup []),[],0,S')):
  ∀k,k≤r.2.length→∀S S' b,qj T d ((rowP p.n i k (r.2.drop k) (l.2.drop k)).map ptV++rest) S=some (b,S')→yu p rb lb R L d S i r k=some (.ret (.tup []),[],0,S'):=by
 refine xq r.2.length ?_ fun k hk ih=> ?_
 ·intro S S' b h
  rw[List.drop_of_length_le (Nat.le_refl _),show rowP p.n i r.2.length [] (l.2.drop r.2.length)= []from by unfold rowP;rfl,List.map_nil,List.nil_append]at h;rw[←hrest _ _ _ h];obtain⟨q1,q2,q3,q4,q5⟩:=zl hi (by omega);have hE:=z8 r.2.length
  conv=>lhs;unfold yu;rw[zx]
  unfold zec;simp -implicitDefEqProofs only[go_sem,simprocAttr,z5,hE,q4]
 ·intro S S' b h
  obtain⟨h1,h2,h3,h4,h5⟩:=zl hk (by omega);obtain⟨g1,g2,g3,g4,g5⟩:=zl (l:=l.2) (i:=k) (by omega) (by omega);obtain⟨q1,q2,q3,q4,q5⟩:=zl hi (by omega);obtain⟨m1,m2,m3,m4,m5⟩:=zl (l:=L) (i:=i) (by omega) (by omega);rw[h5,g5]at h;simp only[rowP,ka]at h;generalize r.2[k]=n at h3 h;generalize l.2[k]'(by omega)=x at g3 h;cases hA:decide (n<IntKind.i64.wrap (x.1- p.n))
  ·cases hB:decide (IntKind.i64.wrap (x.2+p.n)<n)
   ·simp only[hA,hB,Bool.or_false,cond_false]at h
    rw[←ih _ _ _ h]
    conv=>lhs;unfold yu;rw[zx]
    unfold yu;simp -implicitDefEqProofs only[go_sem,simprocAttr,z5,km,h1,h2,h3,h4,g2,g3,m2,hl,hA,hB,zbl]
   ·simp only[hA,hB,Bool.or_true,cond_true,List.map_cons,List.cons_append,qj,ptV]at h
    cases hy:(zu T).yld d [.agg [.int .i64 i,.int .i64 k]] S with
    |none=>rw[hy]at h;cases h
    |some w=>
     obtain⟨c,S1⟩:=w;rw[hy]at h;cases c
     ·simp only[Option.some.injEq,Prod.mk.injEq]at h
      obtain⟨_,rfl⟩:=h;unfold yu;rw[zx];simp -implicitDefEqProofs only[go_sem,simprocAttr,z5,km,h1,h2,h3,h4,g2,g3,m2,hl,hA,hB,zbl,hy]
     ·rw[←ih _ _ _ h]
      conv=>lhs;unfold yu;rw[zx]
      unfold yu;simp -implicitDefEqProofs only[go_sem,simprocAttr,z5,km,h1,h2,h3,h4,g2,g3,m2,hl,hA,hB,zbl,hy]
  ·simp only[hA,Bool.true_or,cond_true,List.map_cons,List.cons_append,qj,ptV]at h
   cases hy:(zu T).yld d [.agg [.int .i64 i,.int .i64 k]] S with
   |none=>rw[hy]at h;cases h
   |some w=>
    obtain⟨c,S1⟩:=w;rw[hy]at h;cases c
    ·simp only[Option.some.injEq,Prod.mk.injEq]at h
     obtain⟨_,rfl⟩:=h;unfold yu;rw[zx];simp -implicitDefEqProofs only[go_sem,simprocAttr,z5,km,h1,h2,h3,h4,g2,g3,m2,hl,hA,zbl,hy]
    ·rw[←ih _ _ _ h]
     conv=>lhs;unfold yu;rw[zx]
     unfold yu;simp -implicitDefEqProofs only[go_sem,simprocAttr,z5,km,h1,h2,h3,h4,g2,g3,m2,hl,hA,zbl,hy]
theorem ywh(p:Pk)(rb lb:Bool)(R:List (Bool×List Int))(L:List (Bool×List (Int×Int)))(d:Nat)(hR:R.length≤8)(hL:L.length=R.length)(s:Nat)(hs:s≤8)(hr:∀r∈R,r.2.length=s)(hl:∀l∈L,l.2.length=s):
  ∀i,i≤R.length→∀S S' b,qj T d ((allP p.n i ((R.map (·.2)).drop i) ((L.map (·.2)).drop i)).map ptV) S=some (b,S')→zec p rb lb R L d S i=some (.ret (.tup []),[],0,S'):=by
 refine xq R.length ?_ fun i hi ih=> ?_
 ·intro S S' b h
  rw[List.drop_of_length_le (by simp),show allP p.n R.length [] ((L.map (·.2)).drop R.length)= []from by unfold allP;rfl,List.map_nil]at h;simp only[qj,Option.some.injEq,Prod.mk.injEq]at h;obtain⟨_,rfl⟩:=h;unfold zec;rw[zx];have h1:=z8 R.length;simp -implicitDefEqProofs only[go_sem,simprocAttr,z5,h1]
 ·intro S S' b h
  obtain⟨h1,h2,h3,h4,h5⟩:=zl hi (by omega);have r1:=hr _ (List.getElem_mem hi);have l1:=hl _ (List.getElem_mem (show i<L.length by omega));have e1:(R.map (·.2)).drop i=R[i].2::(R.map (·.2)).drop (i+1):=by rw[List.drop_eq_getElem_cons (by simpa using hi)];simp
  have e2:(L.map (·.2)).drop i=(L[i]'(by omega)).2::(L.map (·.2)).drop (i+1):=by rw[List.drop_eq_getElem_cons (by simp;omega)];simp
  rw[e1,e2]at h;simp only[allP,List.map_append]at h;rw[←ywg p rb lb R L d i hi hR hL R[i] h3 (L[i]'(by omega)) (List.getElem?_eq_getElem (by omega)) (by rw[r1,l1]) (by omega) _ (fun S S' b h=>ih S S' b h) 0 (by omega) S S' b (by rw[List.drop_zero,List.drop_zero];exact h)]
  conv=>lhs;unfold zec;rw[zx]
  unfold yu;rw[show((0:Nat):Int)=0 from rfl];simp -implicitDefEqProofs only[go_sem,simprocAttr,z5,rwV,h1,h2,h3]
theorem xg3(p:Pk)(rb lb:Bool)(R:List (Bool×List Int))(L:List (Bool×List (Int×Int)))(d:Nat)(hR:R.length≤8)(hL:L.length=R.length)(s:Nat)(hs:s≤8)(hr:∀r∈R,r.2.length=s)(hl:∀l∈L,l.2.length=s)(S S':xb)(b:Bool)
  (h:qj T d ((allP p.n 0 (R.map (·.2)) (L.map (·.2))).map ptV) S=some (b,S')):
  (zu T).call 147 [.yld d,.pp 1 [.sl rb 1 (R.map rwV)] 0 0,.pp 1 [.sl lb 1 (L.map km)] 0 0,.pp 3 [z5 p] 0 0] [] 0 S=some (.tup [],[],0,S'):=by
 rw[xdv];have e:=ywh p rb lb R L d hR hL s hs hr hl 0 (by omega) S S' b (by rw[List.drop_zero,List.drop_zero];exact h);unfold zec at e;simp only[show((0:Nat):Int)=0 from rfl,z5]at e;simp -implicitDefEqProofs only[go_sem,simprocAttr,z5,e]
theorem zip(p:Pk)(ho:Ok p)(sb:Bool)(z:Nat)(st:List Int)(hs:st.length<1000000)(hv:k5 p st)(hz:st≠ []→z=1):(zu T).call 79 [z5 p,.sl sb z (st.map intV)] [] 0 []=
  some (.fn 147 [.pp 1 [.sl (!((jq p).map rwV).isEmpty) 1 ((jq p).map rwV)] 0 0,.pp 1 [.sl true 1 (((ya p st).map rvT).map km)] 0 0,.pp 3 [z5 p] 0 0],[],0,[]):=by
 rw[xbx];have e1:=xh2 p ho;have e2:=xhw p ho sb z st hs hv hz;rw[yvr p ho st hv]at e2;simp only[z5]at e1 e2;simp -implicitDefEqProofs only[go_sem,simprocAttr,z5,e1,e2]
theorem gA{B L:zj}{N:Nat}(h:B.length=N):(B++L)[N]? =L[0]? :=by subst h;rw[List.getElem?_append_right (Nat.le_refl _),Nat.sub_self]
theorem ub{B L:zj}{N:Nat}(h:B.length=N):(B++L)[N+1]? =L[1]? :=by subst h;rw[List.getElem?_append_right (by omega)];congr 1;omega
theorem sA{B L:zj}{N:Nat}{r:Row}(h:B.length=N):(B++L).set N r=B++L.set 0 r:=by subst h;rw[List.set_append_right _ _ (Nat.le_refl _),Nat.sub_self]
theorem yse(env:Den.Env)(he:xx env 2= .ptr 0 0 0)(H:zj)(m:Nat)(l:List (Int×Int))(x:Int×Int)(S:xb)(fl:Bool)(h0:H[0]? =some (.cells true fl 22 [.ref m]))(hm:H[m]? =some (.cells false true 76 (l.map ptV)))(hm0:0<m)(hll:l.length<1000)(N:Nat)(hN:H.length=N)(hmN:m<N):
  runK (zu T) T true qk [.code zcp,.beginRound,.code zcl] ⟨150,13,N,(7,ptV x)::env,H,0,S⟩=
   some (.round none,(H.set m .dead).set 0 (.cells true false 22 [.ref (N+2)])++ [.cells true true 76 [ptV x],.cells false true 76 [ptV x],.cells false true 76 ((l++ [x]).map ptV)],0,S):=by
 have h8:=(xw (n:=l.length) (by omega)).1;have n0:0<N:=by omega
 have d1:decide (N<N+1)=true:=by simp
 have d2:decide (m<N+2)=true:=decide_eq_true (by omega);have d3:decide (0<N+3)=true:=by simp
 have hd0:(H.set m .dead)[0]? =some (.cells true fl 22 [.ref m]):=by rw[List.getElem?_set_ne (by omega),h0]
 simp only[List.map_append,List.map_cons,List.map_nil];simp -implicitDefEqProofs only[go_sem,simprocAttr,he,h0,hm,hd0,hN,n0,hmN,gA,ub,sA,List.getElem?_append_left,List.set_append_left,List.append_assoc,List.length_set,h8,d1,d2,d3,Nat.zero_shiftRight,Nat.and_zero,Nat.zero_or]
theorem xal(env:Den.Env)(he:xx env 2= .ptr 0 0 0)(x:Int×Int)(S:xb):
  runK (zu T) T true qk [.code zcp,.beginRound,.code zcl] ⟨150,13,1,(7,ptV x)::env,[.cells true true 22 [.sl false 0 []]],0,S⟩=
   some (.round none,[.cells true false 22 [.ref 3],.cells true true 76 [ptV x],.cells false true 76 [ptV x],.cells false true 76 [ptV x]],0,S):=by
 have h8:=(xw (n:=0) (by omega)).2;simp -implicitDefEqProofs only[go_sem,simprocAttr,he,h8]
def zah(caps:List V):Den.Env:= [(6,.fn 147 caps),(4,.sl false 0 []),(2,.ptr 0 0 0),(0,.sl false 0 []),(1,.fn 147 caps)]
theorem ymx(caps:List V):xx (zah caps) 2= .ptr 0 0 0:=rfl
def wq(caps:List V)(H:zj):Own:=⟨150,13,zah caps,H,0,[7],zcp,zcl,false,none,0⟩
def zgc(H:zj)(l:List (Int×Int)):Prop:=∃m fl,H[0]? =some (.cells true fl 22 [.ref m])∧H[m]? =some (.cells false true 76 (l.map ptV))∧0<m∧m<H.length
theorem ysa(caps:List V)(S:xb):∀(xs:List (Int×Int)) (H:zj) (l:List (Int×Int)),zgc H l→l.length+xs.length<1000→
  ∃H',zgc H' (l++xs)∧qj T S.length (xs.map ptV) (S++ [wq caps H])=some (true,S++ [wq caps H']):=by
 intro xs
 induction xs with
 |nil=>intro H l hI _;exact⟨H,by rw[List.append_nil];exact hI,rfl⟩
 |cons x xs ih=>
  intro H l hI hl;obtain⟨m,fl,i1,i2,i3,i4⟩:=hI;simp only[List.length_cons]at hl;have hr:=yse (zah caps) (ymx caps) H m l x S fl i1 i2 i3 (by omega) H.length rfl i4;have hy:=za9 (S:=S) (own:=wq caps H) (by kernel_rfl) rfl (args:= [ptV x]) rfl hr
  have hI2:zgc ((H.set m .dead).set 0 (.cells true false 22 [.ref (H.length+2)])++ [.cells true true 76 [ptV x],.cells false true 76 [ptV x],.cells false true 76 ((l++ [x]).map ptV)]) (l++ [x]):=by
   refine⟨H.length+2,false,?_,?_,by omega,by simp⟩
   ·rw[List.getElem?_append_left (by simp;omega),List.getElem?_set_self (by simp;omega)]
   ·rw[List.getElem?_append_right (by simp)]
    simp
  obtain⟨H',j1,j2⟩:=ih _ _ hI2 (by simp;omega);refine⟨H',by rw[List.append_assoc]at j1;exact j1,?_⟩;simp only[List.map_cons,qj];rw[hy];exact j2
theorem xi0(caps:List V)(S:xb)(x:Int×Int)(xs:List (Int×Int))(hx:xs.length<900):
  ∃H',zgc H' (x::xs)∧qj T S.length ((x::xs).map ptV) (S++ [wq caps [.cells true true 22 [.sl false 0 []]]])=some (true,S++ [wq caps H']):=by
 have hr:=xal (zah caps) (ymx caps) x S;have hy:=za9 (S:=S) (own:=wq caps [.cells true true 22 [.sl false 0 []]]) (by kernel_rfl) rfl (args:= [ptV x]) rfl hr;have hI:zgc [.cells true false 22 [.ref 3],.cells true true 76 [ptV x],.cells false true 76 [ptV x],.cells false true 76 [ptV x]] [x]:=⟨3,false,rfl,rfl,by omega,by simp⟩;obtain⟨H',j1,j2⟩:=ysa caps S xs _ _ hI (by simp;omega);refine⟨H',j1,?_⟩;simp only[List.map_cons,qj];rw[hy];exact j2
abbrev zct(caps:List V)(xs:List (Int×Int)):Prop:=∀S S' b,qj T 0 (xs.map ptV) S=some (b,S')→(zu T).call 147 (.yld 0::caps) [] 0 S=some (.tup [],[],0,S')
theorem xg4(caps:List V)(hc:zi caps= [])(hy:z9 caps=false)(xs:List (Int×Int))(hx:xs.length<900)(hcall:zct caps xs):(zu T).call 150 [.sl false 0 [],.fn 147 caps] [] 0 []=some (yr 2 (xs.map ptV),[],0,[]):=by
 rw[xds];simp -implicitDefEqProofs only[go_sem,simprocAttr,hc];cases xs with
 |nil=>
  have e:(zu T).call 147 (.yld (List.length ([]:xb))::caps) [] 0 ([]++ [⟨150,13,zah caps,[.cells true true 22 [.sl false 0 []]],0,(#[7]:Array Nat).toList,zcp,zcl,false,none,0⟩])=some (.tup [],[],0,[]++ [wq caps [.cells true true 22 [.sl false 0 []]]]):=hcall _ _ _ rfl;unfold zah at e;rw[zbe (f:= .tmp 6) (g:=147) (caps:=caps) (S:= []) (ps:= #[7]) rfl hc hy zag.1 zag.2.1 zej rfl (own':=wq caps [.cells true true 22 [.sl false 0 []]]) e];simp only[wq,zah];simp -implicitDefEqProofs only[go_sem,simprocAttr];rfl
 |cons x xs=>
  obtain⟨H',⟨m,fl,i1,i2,i3,i4⟩,j2⟩:=xi0 caps [] x xs (by simp at hx;omega);have e:(zu T).call 147 (.yld (List.length ([]:xb))::caps) [] 0 ([]++ [⟨150,13,zah caps,[.cells true true 22 [.sl false 0 []]],0,(#[7]:Array Nat).toList,zcp,zcl,false,none,0⟩])=some (.tup [],[],0,[]++ [wq caps H']):=hcall _ _ _ j2;unfold zah at e;rw[zbe (f:= .tmp 6) (g:=147) (caps:=caps) (S:= []) (ps:= #[7]) rfl hc hy zag.1 zag.2.1 zej rfl (own':=wq caps H') e];simp only[wq,zah];simp -implicitDefEqProofs only[go_sem,simprocAttr,i1,i2];rfl
theorem yoe(caps:List V)(hc:zi caps= [])(hy:z9 caps=false)(xs:List (Int×Int))(hx:xs.length<900)(hcall:zct caps xs):(zu T).call 87 [.fn 147 caps] [] 0 []=some (.sl (!(xs.map ptV).isEmpty) 2 (xs.map ptV),[],0,[]):=by
 rw[xbq];have e:=xg4 caps hc hy xs hx hcall;simp -implicitDefEqProofs only[go_sem,simprocAttr,hc,hy,e]
def w8(p:Pk)(sb:Bool)(z:Nat)(st:List Int)(caps:List V):Den.Env:= [(7,.fn 147 caps),(6,.sl sb z (st.map intV)),(5,z5 p),(4,.ptr 1 0 0),(2,.ptr 0 0 0),(0,z5 p),(1,.sl sb z (st.map intV))]
def wz(p:Pk):zj:= [.cells true true 44 [z5 p],.cells true true 4 [.bool false]]
theorem xam(p:Pk)(env:Den.Env)(he:xx env 4= .ptr 1 0 0)(x:Int×Int)(S:xb):
  runK (zu T) T true qk [.code yk,.beginRound,.code yz] ⟨52,9,2,(8,ptV x)::env,wz p,0,S⟩=some (.round (some .ret),wz p,0,S):=by
 unfold wz;simp -implicitDefEqProofs only[go_sem,simprocAttr,he]
theorem xhv(p:Pk)(sb:Bool)(z:Nat)(st:List Int)(caps:List V)(hc:zi caps= [])(hy:z9 caps=false)(xs:List (Int×Int))(hcall:zct caps xs)(e1:(zu T).call 79 [z5 p,.sl sb z (st.map intV)] [] 0 []=some (.fn 147 caps,[],0,[])):
  (zu T).call 52 [z5 p,.sl sb z (st.map intV)] [] 0 []=some (.bool xs.isEmpty,[],0,[]):=by
 rw[xcg];simp only[z5]at e1;simp -implicitDefEqProofs only[go_sem,simprocAttr,z5,e1,hc];cases xs with
 |nil=>
  have e:(zu T).call 147 (.yld (List.length ([]:xb))::caps) [] 0 ([]++ [⟨52,9,w8 p sb z st caps,wz p,0,(#[8]:Array Nat).toList,yk,yz,false,none,0⟩])=some (.tup [],[],0,[]++ [⟨52,9,w8 p sb z st caps,wz p,0,[8],yk,yz,false,none,0⟩]):=hcall _ _ _ rfl;unfold w8 wz z5 at e;rw[zbe (f:= .tmp 7) (g:=147) (caps:=caps) (S:= []) (ps:= #[8]) rfl hc hy zag.1 zag.2.1 zej rfl e];simp -implicitDefEqProofs only[go_sem,simprocAttr]
 |cons x xs=>
  have hr:=xam p (w8 p sb z st caps) rfl x [];have hY:=za9 (S:= []) (own:=⟨52,9,w8 p sb z st caps,wz p,0,[8],yk,yz,false,none,0⟩) (by kernel_rfl) rfl (args:= [ptV x]) rfl hr
  have e:(zu T).call 147 (.yld (List.length ([]:xb))::caps) [] 0 ([]++ [⟨52,9,w8 p sb z st caps,wz p,0,(#[8]:Array Nat).toList,yk,yz,false,none,0⟩])=some (.tup [],[],0,[]++ [⟨52,9,w8 p sb z st caps,wz p,0,[8],yk,yz,true,some .ret,0⟩]):=hcall _ _ false (by
   have hY':(zu T).yld 0 [ptV x] [⟨52,9,w8 p sb z st caps,wz p,0,[8],yk,yz,false,none,0⟩]=some (false,[⟨52,9,w8 p sb z st caps,wz p,0,[8],yk,yz,true,some .ret,0⟩]):=hY;show(match (zu T).yld 0 [ptV x] [⟨52,9,w8 p sb z st caps,wz p,0,[8],yk,yz,false,none,0⟩]with|some (true,S')=>qj T 0 (xs.map ptV) S'|o=>o)=_;rw[hY'];rfl)
  unfold w8 wz z5 at e;rw[zbe (f:= .tmp 7) (g:=147) (caps:=caps) (S:= []) (ps:= #[8]) rfl hc hy zag.1 zag.2.1 zej rfl e];simp -implicitDefEqProofs only[go_sem,simprocAttr]
def vg(p:Pk)(st:List Int):List (Int×Int):=allP p.n 0 ((jq p).map (·.2)) (ya p st)
theorem zpt{p:Pk}(ho:Ok p):∀r∈jq p,r.2.length=xr p:=by
 intro r hr;obtain⟨x,hx,rfl⟩:=List.mem_map.1 hr;have h:=zpp _ _ ((zmj ho x hx).2);have h2:=(zmj ho x hx).2;have h3:=zex p;simp only[rsR];omega
theorem zo6{p:Pk}(ho:Ok p)(st:List Int):(vg p st).length≤64:=by
 have h:=xiz p.n 8 ((jq p).map (·.2)) 0 (ya p st) (fun r hr=>by
  obtain⟨x,hx,rfl⟩:=List.mem_map.1 hr;have:=zpt ho x hx;have:=ho.s8;omega)
 have v8:=ho.v8;simp only[List.length_map,show(jq p).length=p.v.length by simp[jq]]at h;unfold vg;omega
abbrev zcj(p:Pk)(st:List Int):List V:= [.pp 1 [.sl (!((jq p).map rwV).isEmpty) 1 ((jq p).map rwV)] 0 0,.pp 1 [.sl true 1 (((ya p st).map rvT).map km)] 0 0,.pp 3 [z5 p] 0 0]
theorem call125(p:Pk)(ho:Ok p)(st:List Int):zct (zcj p st) (vg p st):=by
 intro S S' b h;have v8:=ho.v8;refine xg3 p _ _ (jq p) ((ya p st).map rvT) 0 (by simp[jq];omega) (by simp[jq,ya]) (xr p) ho.s8 (zpt ho) (yvq st) S S' b ?_;rw[show((ya p st).map rvT).map (·.2)=ya p st by rw[List.map_map];exact List.map_id _];exact h
theorem zci(p:Pk)(st:List Int):zi (zcj p st)= []∧z9 (zcj p st)=false:=⟨rfl,rfl⟩
def zcg(x y:Int):Int:=bif decide (x<y)then -1 else bif decide (y<x)then 1 else 0
theorem zn8(x y:Int):(zu T).call 142 [.int .i64 x,.int .i64 y] [] 0 []=some (.int .i64 (zcg x y),[],0,[]):=by
 rw[xdz];unfold zcg;cases h:decide (x<y)
 ·cases h2:decide (y<x)
  ·simp -implicitDefEqProofs only[go_sem,simprocAttr,zin,h,h2,zbl]
  ·simp -implicitDefEqProofs only[go_sem,simprocAttr,zin,h,h2,zbl]
 ·simp -implicitDefEqProofs only[go_sem,simprocAttr,zin,h]
def cmpL:List Int→List Int→Int
 | [],[]=>0
 | [],_::_=> -1
 |_::_,[]=>1
 |a::r,b::s=>bif zcg a b !=0 then zcg a b else cmpL r s
theorem ywb(b c:Bool)(y z:Nat)(l m:List Int)(hy:l≠ []→y=1)(hz:m≠ []→z=1)(hb:l.length<1000000)(hm:m.length<1000000):∀i,i≤l.length→i≤m.length→(zu T).loop false [.code (.loop zjq),.inBlock 0,.code (.seq (.seq zlz (.cond (.tmp 35) (.seq zly .ret) .skip)) (.seq zlx .ret))] ⟨143,36,0,[(0,.sl b y (l.map intV)),(1,.sl c z (m.map intV)),(9,.sl b y (l.map intV)),(10,.int .i64 l.length),(11,.int .i64 i)],[],0,[]⟩=
  some (.ret (.int .i64 (cmpL (l.drop i) (m.drop i))),[],0,[]):=by
 refine xq l.length ?_ fun i hi ih=> ?_
 ·intro hm2
  have h1:=z8 l.length;rw[zx,List.drop_of_length_le (Nat.le_refl _)];by_cases h:l.length<m.length
  ·have h2:decide ((l.length:Int)<(m.length:Int))=true:=by simp;omega
   rw[List.drop_eq_getElem_cons h];simp -implicitDefEqProofs only[go_sem,simprocAttr,h1,h2];rfl
  ·have h2:decide ((l.length:Int)<(m.length:Int))=false:=by simp;omega
   rw[List.drop_of_length_le (by omega)];simp -implicitDefEqProofs only[go_sem,simprocAttr,h1,h2];rfl
 ·intro hm2
  obtain⟨h1,h2,h3,h4,h5⟩:=zl hi (by omega);have hy1:=hy (fun e=>by rw[e]at hi;cases hi);subst hy1;rw[zx,h5];by_cases h:i<m.length
  ·obtain⟨g1,g2,g3,g4,g5⟩:=zl h (by omega)
   have hz1:=hz (fun e=>by rw[e]at h;cases h);subst hz1;rw[g5];simp only[cmpL];have h6:decide ((i:Int)≥(m.length:Int))=false:=by simp;omega
   have h6':decide ((m.length:Int)≤(i:Int))=false:=by simp;omega
   cases h7:(zcg l[i] m[i] !=0)
   ·simp only[cond_false]
    rw[←ih (by omega)];simp -implicitDefEqProofs only[go_sem,simprocAttr,h1,h2,h3,h4,g2,g3,h6,h6',zn8,h7]
   ·simp -implicitDefEqProofs only[go_sem,simprocAttr,h1,h2,h3,h4,g2,g3,h6,h6',zn8,h7]
  ·have h6:decide ((i:Int)≥(m.length:Int))=true:=by simp;omega
   have h6':decide ((m.length:Int)≤(i:Int))=true:=by simp;omega
   rw[show m.drop i= []from List.drop_of_length_le (by omega)];simp -implicitDefEqProofs only[go_sem,simprocAttr,h1,h2,h3,h4,h6,h6'];rfl
theorem xgt(b c:Bool)(y z:Nat)(l m:List Int)(hy:l≠ []→y=1)(hz:m≠ []→z=1)(hb:l.length<1000000)(hm:m.length<1000000):(zu T).call 143 [.sl b y (l.map intV),.sl c z (m.map intV)] [] 0 []=some (.int .i64 (cmpL l m),[],0,[]):=by
 rw[xdy];have h:=ywb b c y z l m hy hz hb hm 0 (by omega) (by omega);rw[show((0:Nat):Int)=0 from rfl,List.drop_zero,List.drop_zero]at h;simp -implicitDefEqProofs only[go_sem,simprocAttr,h]
theorem xgu(x y:Int):(zu T).call 141 [.sl true 1 [.int .i64 x,.int .i64 y]] [] 0 []=some (.int .i64 (bif x !=0 then x else y),[],0,[]):=by
 rw[xd0];simp -implicitDefEqProofs only[go_sem,simprocAttr];rw[zx];cases h:(x !=0)
 ·simp -implicitDefEqProofs only[go_sem,simprocAttr,h,wrap64]
  rw[zx];cases h2:(y !=0)
  ·have:y=0:=by simpa using h2
   simp -implicitDefEqProofs only[go_sem,simprocAttr,h2,wrap64];rw[zx];simp -implicitDefEqProofs only[go_sem,simprocAttr];rw[this]
  ·simp -implicitDefEqProofs only[go_sem,simprocAttr,h2]
 ·simp -implicitDefEqProofs only[go_sem,simprocAttr,h]
def znw(l m:List Int):Int:=bif zcg l.length m.length !=0 then zcg l.length m.length else cmpL l m
theorem xgv(b c:Bool)(y z:Nat)(l m:List Int)(hy:l≠ []→y=1)(hz:m≠ []→z=1)(hb:l.length<1000000)(hm:m.length<1000000):(zu T).call 140 [.sl b y (l.map intV),.sl c z (m.map intV)] [] 0 []=some (.int .i64 (znw l m),[],0,[]):=by
 rw[xd1];have e:=xgt b c y z l m hy hz hb hm;unfold znw;simp -implicitDefEqProofs only[go_sem,simprocAttr,zn8,e,xgu]
def zfj:List V→Option (List Int)
 | []=>some []
 | .int .i64 n::r=>(match zfj r with|some l=>some (n::l)|none=>none)
 |_::_=>none
theorem znp:∀{vs l},zfj vs=some l→vs=l.map intV
 | [],l,h=>by cases h;rfl
 |v::r,l,h=>by
  unfold zfj at h;split at h
  ·rename_i h0;cases h0
  ·rename_i n r' h0
   cases h0;split at h
   ·rename_i l' hl
    cases h;rw[znp hl];rfl
   ·cases h
  ·cases h
def zhn(l:List Int)(y:Nat):Bool:=Nat.ble l.length 1000&&(Nat.beq l.length 0||Nat.beq y 1)
theorem zhm{l:List Int}{y:Nat}(h:zhn l y=true):l.length<1000000∧(l≠ []→y=1):=by
 unfold zhn at h;simp only[Bool.and_eq_true,Bool.or_eq_true]at h;have h1:=Nat.le_of_ble_eq_true h.1;refine⟨by omega,fun hn=> ?_⟩;rcases h.2 with h2|h2
 ·have:=Nat.eq_of_beq_eq_true h2
  exact absurd (List.length_eq_zero_iff.1 this) hn
 ·exact Nat.eq_of_beq_eq_true h2
def ylg(f:FuncId)(args:List V):Option V:=
 match Nat.beq f 140 with
 |false=>none
 |true=>(match args with
  | [.sl _ y a,.sl _ z b]=>(match zfj a,zfj b with
   |some l,some m=>(match zhn l y&&zhn m z with|true=>some (.int .i64 (znw l m))|false=>none)
   |_,_=>none)
  |_=>none)
theorem we(f:FuncId)(args:List V)(v:V)(h:ylg f args=some v):(zu T).call f args [] 0 []=some (v,[],0,[]):=by
 unfold ylg at h;split at h
 ·cases h
 ·rename_i hf
  have hf2:=Nat.eq_of_beq_eq_true hf;subst hf2;split at h
  ·split at h
   ·rename_i l m h1 h2
    split at h
    ·rename_i h3
     rw[Bool.and_eq_true]at h3;cases h;rw[znp h1,znp h2];exact xgv _ _ _ _ l m (zhm h3.1).2 (zhm h3.2).2 (zhm h3.1).1 (zhm h3.2).1
    ·cases h
   ·cases h
  ·cases h
def znv:Nat→List Int→List (List Int)
 |0,_=> [[]]
 |_+1,[]=> []
 |s+1,x::xs=>(znv s xs).map (x:: ·)++znv (s+1) xs
def setsN(n:Nat):List (List Int):=(List.range (n+1)).flatMap fun s=>znv s ((List.range n).map Int.ofNat)
def k8(z:Nat)(l:List Int):V:= .sl (!l.isEmpty) (bif l.isEmpty then z else 1) (l.map fun n=> .int .i64 n)
def seZ(n:Nat):Nat:=bif Nat.ble n 3 then 0 else 1
theorem ms0:(zu T).call 78 [.int .i64 0] [] 0 []=some (.fn 185 [.pp 1 [.sl true 1 ((setsN 0).map (k8 (seZ 0)))] 0 0],[],0,[]):=zdk we 100000 (by kernel_rfl)
theorem ms1:(zu T).call 78 [.int .i64 1] [] 0 []=some (.fn 185 [.pp 1 [.sl true 1 ((setsN 1).map (k8 (seZ 1)))] 0 0],[],0,[]):=zdk we 100000 (by kernel_rfl)
theorem ms2:(zu T).call 78 [.int .i64 2] [] 0 []=some (.fn 185 [.pp 1 [.sl true 1 ((setsN 2).map (k8 (seZ 2)))] 0 0],[],0,[]):=zdk we 100000 (by kernel_rfl)
theorem ms3:(zu T).call 78 [.int .i64 3] [] 0 []=some (.fn 185 [.pp 1 [.sl true 1 ((setsN 3).map (k8 (seZ 3)))] 0 0],[],0,[]):=zdk we 100000 (by kernel_rfl)
theorem ms4:(zu T).call 78 [.int .i64 4] [] 0 []=some (.fn 185 [.pp 1 [.sl true 1 ((setsN 4).map (k8 (seZ 4)))] 0 0],[],0,[]):=zdk we 100000 (by kernel_rfl)
attribute [go_sem] k8
def qe(l:List Int):V:= .sl (!l.isEmpty) 1 (l.map intV)
attribute [go_sem] qe
theorem zpj(l:List Int):qe l= .sl (!l.isEmpty) 1 (l.map intV):=rfl
@[go_sem]theorem asSl_se{α:Type}(z:Nat)(x:List Int)(k:Bool→List V→Option α):v5 1 (.sl (!x.isEmpty) (bif x.isEmpty then z else 1) (x.map fun n=> .int .i64 n)) k=k (!x.isEmpty) (x.map intV):=by
 cases x with
 |nil=>simp[v5]
 |cons a r=>simp[v5];rfl
theorem yv5(z:Nat)(l:List (List Int))(d:Nat)(hl:l.length<1000000):∀i,i≤l.length→∀S S' b,qj T d ((l.drop i).map qe) S=some (b,S')→
  (zu T).loop false [.code (.loop zjg),.inBlock 0] ⟨185,16,0,[(0,.yld d),(5,.sl true 1 (l.map (k8 z))),(6,.int .i64 l.length),(7,.int .i64 i)],[],0,S⟩=some (.ret (.tup []),[],0,S'):=by
 refine xq l.length ?_ fun i hi ih=> ?_
 ·intro S S' b h
  rw[List.drop_of_length_le (Nat.le_refl _)]at h;simp only[List.map_nil,qj,Option.some.injEq,Prod.mk.injEq]at h;obtain⟨_,rfl⟩:=h;have h1:=z8 l.length;rw[zx];simp -implicitDefEqProofs only[go_sem,simprocAttr,h1]
 ·intro S S' b h
  obtain⟨h1,h2,h3,h4,h5⟩:=zl hi (by omega);rw[h5]at h;simp only[List.map_cons,qj]at h;generalize l[i]=x at h3 h;cases hy:(zu T).yld d [qe x] S with
  |none=>rw[hy]at h;cases h
  |some w=>
   obtain⟨c,S1⟩:=w;rw[hy]at h;rw[zpj]at hy;cases c
   ·simp only[Option.some.injEq,Prod.mk.injEq]at h
    obtain⟨_,rfl⟩:=h;rw[zx];simp -implicitDefEqProofs only[go_sem,simprocAttr,h1,h2,h3,h4,hy]
   ·rw[←ih _ _ _ h]
    conv=>lhs;rw[zx]
    simp -implicitDefEqProofs only[go_sem,simprocAttr,h1,h2,h3,h4,hy]
theorem zn6(z:Nat)(l:List (List Int))(d:Nat)(hl:l.length<1000000)(S S':xb)(b:Bool)(h:qj T d (l.map qe) S=some (b,S')):(zu T).call 185 [.yld d,.pp 1 [.sl true 1 (l.map (k8 z))] 0 0] [] 0 S=some (.tup [],[],0,S'):=by
 rw[xdf];have e:=yv5 z l d hl 0 (by omega) S S' b (by rw[List.drop_zero];exact h);rw[show((0:Nat):Int)=0 from rfl]at e;simp -implicitDefEqProofs only[go_sem,simprocAttr,e]
def expl(p:Pk)(l:List (List Int)):List (List Int):=l.filter fun st=>(vg p st).isEmpty
theorem call126(p:Pk)(ho:Ok p)(st:List Int)(hs:st.length<1000000)(hv:k5 p st):(zu T).call 52 [z5 p,qe st] [] 0 []=some (.bool (vg p st).isEmpty,[],0,[]):=by
 obtain⟨i1,i2⟩:=zci p st;exact xhv p _ _ st (zcj p st) i1 i2 (vg p st) (call125 p ho st) (zip p ho _ _ st hs hv (fun _=>rfl))
def zkb(p:Pk)(H:zj)(l:List (List Int)):Prop:=2≤H.length∧H[0]? =some (.cells true true 44 [z5 p])∧
 ((l= []∧∃fl,H[1]? =some (.cells true fl 31 [.sl false 0 []]))∨(l≠ []∧∃m fl,H[1]? =some (.cells true fl 31 [.ref m])∧H[m]? =some (.cells false true 35 (l.map qe))∧1<m∧m<H.length))
theorem ysd(p:Pk)(ho:Ok p)(env:Den.Env)(he1:xx env 1= .ptr 0 0 0)(he3:xx env 3= .ptr 1 0 0)(H:zj)(l:List (List Int))(x:List Int)(hx:x.length<1000000)(hv:k5 p x)(hll:l.length<1000)(hI:zkb p H l)(N:Nat)(hN:H.length=N):
  ∃H',zkb p H' (l++expl p [x])∧runK (zu T) T true qk [.code zf9,.beginRound,.code zfr] ⟨119,18,N,(9,qe x)::env,H,0,[]⟩=some (.round none,H',0,[]):=by
 obtain⟨hN2,h0,hI⟩:=hI;have e:=call126 p ho x hx hv;rw[zpj]at e;have n0:0<N:=by omega
 have n1:1<N:=by omega
 cases hu:(vg p x).isEmpty
 ·rw[hu]at e
  refine⟨H,?_,?_⟩
  ·rw[show expl p [x]= [] by simp[expl,hu],List.append_nil]
   exact⟨hN2,h0,hI⟩
  ·simp only[z5]at e h0
   simp -implicitDefEqProofs only[go_sem,simprocAttr,he1,he3,h0,hN,n0,e]
 ·rw[hu]at e
  have hex:expl p [x]= [x]:=by simp[expl,hu]
  rw[hex];have d1:decide (1<N+1)=true:=decide_eq_true (by omega);have d2:decide (1<N+2)=true:=decide_eq_true (by omega);simp only[z5]at e h0;rcases hI with⟨rfl,fl,h1⟩|⟨hl,m,fl,h1,hm,hm1,hmN⟩
  ·refine⟨H.set 1 (.cells true false 31 [.ref (N+1)])++ [.cells false true 35 [qe x],.cells false true 35 [qe x]],⟨by simp,?_,.inr ⟨by simp,N+1,false,?_,?_,by omega,by simp[hN]⟩⟩,?_⟩
   ·rw[List.getElem?_append_left (by simp;omega),List.getElem?_set_ne (by omega),h0,z5]
   ·rw[List.getElem?_append_left (by simp;omega),List.getElem?_set_self (by omega)]
   ·rw[ub (by simp;exact hN)];rfl
   ·have h8:=(xw (n:=0) (by omega)).2
    simp -implicitDefEqProofs only[go_sem,simprocAttr,he1,he3,h0,h1,hN,n0,n1,e,gA,ub,sA,List.getElem?_append_left,List.set_append_left,List.append_assoc,List.length_set,h8,d1,d2,Nat.zero_shiftRight,Nat.and_zero,Nat.zero_or]
  ·have h8:=(xw (n:=l.length) (by omega)).1
   have d4:decide (m<N+1)=true:=decide_eq_true (by omega);have hmN':m<N:=by omega
   have hd1:(H.set m .dead)[1]? =some (.cells true fl 31 [.ref m]):=by rw[List.getElem?_set_ne (by omega),h1]
   refine⟨(H.set m .dead).set 1 (.cells true false 31 [.ref (N+1)])++ [.cells false true 35 [qe x],.cells false true 35 ((l++ [x]).map qe)],⟨by simp,?_,.inr ⟨by simp,N+1,false,?_,?_,by omega,by simp[hN]⟩⟩,?_⟩
   ·rw[List.getElem?_append_left (by simp;omega),List.getElem?_set_ne (by omega),List.getElem?_set_ne (by omega),h0,z5]
   ·rw[List.getElem?_append_left (by simp;omega),List.getElem?_set_self (by simp;omega)]
   ·rw[ub (by simp;exact hN)];rfl
   ·simp only[List.map_append,List.map_cons,List.map_nil]
    simp -implicitDefEqProofs only[go_sem,simprocAttr,he1,he3,h0,h1,hm,hd1,hN,n0,n1,hmN',e,gA,ub,sA,List.getElem?_append_left,List.set_append_left,List.append_assoc,List.length_set,h8,d1,d2,d4,Nat.zero_shiftRight,Nat.and_zero,Nat.zero_or]
abbrev vy(n:Nat):List V:= [.pp 1 [.sl true 1 ((setsN n).map (k8 (seZ n)))] 0 0]
def zcf(p:Pk):Den.Env:= [(8,.fn 185 (vy p.c.length)),(7,.int .i64 p.c.length),(6,.sl p.cb 3 (p.c.map czV)),(5,.ptr 0 0 2),(3,.ptr 1 0 0),(2,.sl false 0 []),(1,.ptr 0 0 0),(0,z5 p)]
def zdf(p:Pk)(H:zj):Own:=⟨119,18,zcf p,H,0,[9],zf9,zfr,false,none,0⟩
theorem xa5(p:Pk)(x:List Int)(xs:List (List Int)):expl p (x::xs)=expl p [x]++expl p xs:=by
 unfold expl;cases h:(vg p x).isEmpty<;>simp[h]
theorem xa4(p:Pk)(xs:List (List Int)):(expl p xs).length≤xs.length:=List.length_filter_le _ _
theorem yr9(p:Pk)(ho:Ok p):∀(xs:List (List Int)),(∀x∈xs,x.length<1000000∧k5 p x)→∀(H:zj) (l:List (List Int)),zkb p H l→l.length+xs.length<1000→
  ∃H',zkb p H' (l++expl p xs)∧qj T 0 (xs.map qe) [zdf p H]=some (true,[zdf p H']):=by
 intro xs
 induction xs with
 |nil=>intro _ H l hI _;exact⟨H,by rw[show expl p []= []from rfl,List.append_nil];exact hI,rfl⟩
 |cons x xs ih=>
  intro hx H l hI hl;simp only[List.length_cons]at hl;obtain⟨x1,x2⟩:=hx x (by simp);obtain⟨H1,hI1,hr⟩:=ysd p ho (zcf p) rfl rfl H l x x1 x2 (by omega) hI H.length rfl;have hy:=za9 (S:= []) (own:=zdf p H) (by kernel_rfl) rfl (args:= [qe x]) rfl hr;have hlen:=xa4 p [x];simp only[List.length_cons,List.length_nil]at hlen;obtain⟨H',j1,j2⟩:=ih (fun y hy=>hx y (by simp[hy])) H1 _ hI1 (by rw[List.length_append];omega);refine⟨H',by rw[xa5,←List.append_assoc];exact j1,?_⟩;have hy':(zu T).yld 0 [qe x] [zdf p H]=some (true,[zdf p H1]):=hy;simp only[List.map_cons,qj];rw[hy'];exact j2
abbrev exA(p:Pk):List (List Int):=expl p (setsN p.c.length)
theorem xg2(p:Pk)(ho:Ok p)(hl:(setsN p.c.length).length≤64)(hs:∀x∈setsN p.c.length,x.length<1000000∧k5 p x)(h136:(zu T).call 78 [.int .i64 p.c.length] [] 0 []=some (.fn 185 (vy p.c.length),[],0,[])):
  ∃H',(exA p= []∧(zu T).call 119 [z5 p] [] 0 []=some (.sl false 0 [],H',0,[]))∨(exA p≠ []∧∃m,H'[m]? =some (.cells false true 35 ((exA p).map qe))∧(zu T).call 119 [z5 p] [] 0 []=some (.ref m,H',0,[])):=by
 obtain⟨H',⟨i1,i2,i3⟩,hy⟩:=yr9 p ho (setsN p.c.length) hs [.cells true true 44 [z5 p],.cells true true 31 [.sl false 0 []]] [] ⟨by simp,rfl,.inl ⟨rfl,true,rfl⟩⟩ (by simp;omega);rw[List.nil_append]at i3
 have e:(zu T).call 185 (.yld (List.length ([]:xb))::vy p.c.length) [] 0 ([]++ [⟨119,18,zcf p,[.cells true true 44 [z5 p],.cells true true 31 [.sl false 0 []]],0,(#[9]:Array Nat).toList,zf9,zfr,false,none,0⟩])=some (.tup [],[],0,[]++ [zdf p H']):=
  zn6 _ _ 0 (by omega) _ _ true hy
 have e0:=e;unfold zcf z5 at e0
 have start:∀R,zb0 (runK (zu T) T false 99991 [.inBlock 0,.code (r119_6.seq .ret)] ⟨119,18,0,zcf p,H',0,[]⟩)=R→(zu T).call 119 [z5 p] [] 0 []=R:=by
  intro R hR;rw[xeh];simp -implicitDefEqProofs only[go_sem,simprocAttr,z5,h136];rw[zbe (f:= .tmp 8) (g:=185) (caps:=vy p.c.length) (S:= []) (ps:= #[9]) rfl rfl rfl zdu.1 zdu.2.1 zky rfl e0];exact hR
 refine⟨H',?_⟩;rcases i3 with⟨h1,fl,h2⟩|⟨h1,m,fl,h2,h3,h4,h5⟩
 ·refine .inl ⟨h1,start _ ?_⟩
  unfold zcf;simp -implicitDefEqProofs only[go_sem,simprocAttr,h2]
 ·refine .inr ⟨h1,m,h3,start _ ?_⟩
  unfold zcf;simp -implicitDefEqProofs only[go_sem,simprocAttr,h2]
structure Sok (p:Pk):Prop where
 len:(setsN p.c.length).length≤64
 el:∀x∈setsN p.c.length,x.length<1000000∧k5 p x
 c136:(zu T).call 78 [.int .i64 p.c.length] [] 0 []=some (.fn 185 (vy p.c.length),[],0,[])
theorem yod(p:Pk)(hf:p.fit)(h:vi p=0)(hs:Sok p)(hx:exA p≠ []):(zu T).call 53 [z5 p] [] 0 []=some (.tup [.ref 1,.int .i64 0],[.cells true true 44 [z5 p],.cells false true 35 ((exA p).map qe)],0,[]):=by
 rw[xcf];have e1:=c23 p hf;rw[h]at e1
 have hne:(((exA p).length:Int)==0)=false:=by
  cases hc:exA p with
  |nil=>exact absurd hc hx
  |cons a r=>simp;omega
 obtain⟨H',⟨h1,e2⟩|⟨h1,m,h2,e2⟩⟩:=xg2 p (zg5 h) hs.len hs.el hs.c136
 ·exact absurd h1 hx
 ·generalize exA p=E at*
  simp only[z5]at e1 e2;simp -implicitDefEqProofs only[go_sem,simprocAttr,z5,e1,e2,h2,jz,hne]
abbrev qf(l:List (List Int)):Row:= .cells false true 35 (l.map qe)
theorem xht(x0:List Int)(l:List (List Int))(hl:l[0]? =some x0)(s:List Int):(zu T).call 55 [qe s,.ptr 0 0 0] [.cells true false 31 [.ref 1],qf l] 0 []=some (.bool (decide ((x0.length:Int)<s.length)),[.cells true false 31 [.ref 1],qf l],0,[]):=by
 rw[xce];have d:decide (0<(l.length:Int))=true:=decide_eq_true (by have:=(List.getElem?_eq_some_iff.1 hl).1;omega);simp -implicitDefEqProofs only[go_sem,simprocAttr,zbl,d,hl]
theorem call130(x0:List Int)(l:List (List Int))(hl:l[0]? =some x0)(s:List Int)(k:V→Prog)(S:xb)(rd wr fr:Nat)(sk:Bool)(K:V→zj→Nat→xb→FP→Option Out):(callP (zu T) T 55 [.sl (!s.isEmpty) 1 (s.map intV),.ptr 1 0 0] k).go none [.cells false true 35 (l.map qe),.cells true false 31 [.ref 0]] 0 S ⟨rd,wr,fr,sk⟩ K=
  (k (.bool (decide ((x0.length:Int)<s.length)))).go none [.cells false true 35 (l.map qe),.cells true false 31 [.ref 0]] 0 S ⟨rd|||bit 1|||bit 0|||bit 1|||bit 0,wr|||bit 1|||bit 0|||bit 1|||bit 0,fr,sk⟩ K:=by
 refine(zhx (x:=1) (y:=0) xaz.1 rfl k (fun k'=>ysw (by omega) rfl rfl rfl 9996 k') rfl rfl rfl rfl rfl rfl (xht x0 l hl s) rfl).trans ?_;simp -implicitDefEqProofs only[go_sem,simprocAttr];rfl
abbrev za0:Row:= .cells true false 31 [.ref 0]
abbrev f130:V:= .fn 55 [.ptr 1 0 0]
def zj6(l:List (List Int))(i:Nat):Option Out:=
 (zu T).loop false [.code (.loop zf2),.inBlock 0,.code (.seq zgy .ret)]
  ⟨120,19,2,[(0,.ref 0),(1,f130),(7,.int .i64 l.length),(8,.int .i64 i)],[qf l,za0],0,[]⟩
structure Cut (x0:List Int) (l:List (List Int)) (n:Nat):Prop where
 hx:l[0]? =some x0
 le:n≤l.length
 ha:∀i (h:i<l.length),i<n→l[i].length≤x0.length
 hb:∀i (h:i<l.length),n≤i→x0.length<l[i].length
 hm:l.length<1000
theorem ywf(x0:List Int)(l:List (List Int))(n:Nat)(hc:Cut x0 l n):∀i,i≤n→zj6 l i=some (.ret (.int .i64 (if n=l.length then -1 else n)),[qf l,za0],0,[]):=by
 have hm:=hc.hm;have hn:=hc.le;refine xq n ?_ fun i hi ih=> ?_
 ·unfold zj6
  rw[zx];by_cases hE:n=l.length
  ·have h1:=z8 l.length
   rw[if_pos hE];subst hE;simp -implicitDefEqProofs only[go_sem,simprocAttr,h1]
  ·have hlt:n<l.length:=by omega
   obtain⟨h1,h2,h3,h4,h5⟩:=zl hlt (by omega);have hb:decide ((x0.length:Int)<l[n].length)=true:=by have:=hc.hb n hlt (Nat.le_refl _);simp;omega
   rw[if_neg hE];have e:=call130 x0 l hc.hx l[n];simp -implicitDefEqProofs only[go_sem,simprocAttr,h1,h2,h3,e,hb]
 ·have hlt:i<l.length:=by omega
  obtain⟨h1,h2,h3,h4,h5⟩:=zl hlt (by omega);have hb:decide ((x0.length:Int)<l[i].length)=false:=by have:=hc.ha i hlt hi;simp;omega
  rw[←ih];unfold zj6
  conv=>lhs;rw[zx]
  have e:=call130 x0 l hc.hx l[i];simp -implicitDefEqProofs only[go_sem,simprocAttr,h1,h2,h3,h4,e,hb]
theorem xg1(x0:List Int)(l:List (List Int))(n:Nat)(hc:Cut x0 l n):(zu T).call 120 [.ref 0,f130] [qf l,za0] 0 []=some (.int .i64 (if n=l.length then -1 else n),[qf l,za0],0,[]):=by
 have h:=ywf x0 l n hc 0 (by omega);unfold zj6 at h;rw[show((0:Nat):Int)=0 from rfl]at h;rw[ym4];simp -implicitDefEqProofs only[go_sem,simprocAttr,h]
theorem call199(x0:List Int)(l:List (List Int))(n:Nat)(hc:Cut x0 l n)(k:V→Prog)(S:xb)(rd wr fr:Nat)(sk:Bool)(K:V→zj→Nat→xb→FP→Option Out):(callP (zu T) T 120 [.ref 0,.fn 55 [.ptr 1 0 0]] k).go none [.cells false true 35 (l.map qe),.cells true false 31 [.ref 0]] 0 S ⟨rd,wr,fr,sk⟩ K=
  (k (.int .i64 (if n=l.length then -1 else n))).go none [.cells false true 35 (l.map qe),.cells true false 31 [.ref 0]] 0 S ⟨rd|||bit 0|||bit 1|||bit 0|||bit 1,wr|||bit 0|||bit 1|||bit 0|||bit 1,fr,sk⟩ K:=by
 refine(zhx (x:=0) (y:=1) ymp.1 rfl k (fun k'=>zkz (by omega) rfl rfl rfl 9996 k') rfl rfl rfl rfl rfl rfl (xg1 x0 l n hc) rfl).trans ?_;simp -implicitDefEqProofs only[go_sem,simprocAttr];rfl
def zj8(l:List (List Int))(n j:Nat):Option Out:=
 (zu T).loop false [.code (.loop zfv),.inBlock 0,.code (.seq zgs (.seq zgr .ret))]
  ⟨54,42,2,[(0,.ref 0),(1,f130),(5,.int .i64 n),(6,.int .i64 j)],[qf l,za0],0,[]⟩
abbrev clr(l:List (List Int))(n:Nat):List V:=(l.map qe).take n++(List.replicate (l.length- n) (.sl false 0 [])++(l.map qe).drop (n+(l.length- n)))
theorem ywu(x0:List Int)(l:List (List Int))(n:Nat)(hc:Cut x0 l n):∀j,j≤l.length→n≤j→zj8 l n j=some (.ret (.sub 0 0 n),[.cells false true 35 (clr l n),za0],0,[]):=by
 have hm:=hc.hm;have hn:=hc.le;refine xq l.length ?_ fun j hj ih=> ?_
 ·intro _
  unfold zj8;rw[zx];have h1:=z8 l.length;have d1:decide (n≤l.length)=true:=decide_eq_true hn;have d2:decide (0≤(n:Int))=true:=decide_eq_true (by omega);have d3:decide (n≤l.length∧l.length≤l.length)=true:=decide_eq_true ⟨hn,Nat.le_refl _⟩;have d4:decide (0≤n∧n≤(List.take n (List.map qe l)).length+((List.replicate (l.length- n) (V.sl false 0 [])).length+(List.drop (n+(l.length- n)) (List.map qe l)).length))=true:=decide_eq_true ⟨Nat.zero_le _,by simp;omega⟩;simp -implicitDefEqProofs only[go_sem,simprocAttr,h1,d1,d2,d3,d4,Nat.sub_zero]
 ·intro hAj
  obtain⟨h1,h2,h3,h4,h5⟩:=zl hj (by omega);have hb:decide ((x0.length:Int)<l[j].length)=true:=by have:=hc.hb j hj hAj;simp;omega
  rw[←ih (by omega)];unfold zj8
  conv=>lhs;rw[zx]
  have e:=call130 x0 l hc.hx l[j];simp -implicitDefEqProofs only[go_sem,simprocAttr,h1,h2,h3,h4,e,hb]
theorem xhu(x0:List Int)(l:List (List Int))(n:Nat)(hc:Cut x0 l n):(zu T).call 54 [.ref 0,f130] [qf l,za0] 0 []=if n=l.length then some (.ref 0,[qf l,za0],0,[])else some (.sub 0 0 n,[.cells false true 35 (clr l n),za0],0,[]):=by
 rw[ymz];have e:=call199 x0 l n hc;have hm:=hc.hm;have hn:=hc.le;by_cases hE:n=l.length
 ·rw[if_pos hE]
  simp only[if_pos hE]at e;simp -implicitDefEqProofs only[go_sem,simprocAttr,e]
 ·rw[if_neg hE]
  simp only[if_neg hE]at e;have hb:((n:Int)== -1)=false:=by simp
  have hw:IntKind.i64.wrap ((n:Int)+1)=((n+1:Nat):Int):=by rw[wrap64]<;>omega
  have h:=ywu x0 l n hc (n+1) (by omega) (by omega);unfold zj8 at h;simp -implicitDefEqProofs only[go_sem,simprocAttr,e,hb,hw,h]
theorem c36(p:Pk)(hf:p.fit)(h0:vi p=0)(hs:Sok p)(x0:List Int)(n:Nat)(hc:Cut x0 (exA p) n):(zu T).call 12 [z5 p] [] 0 []=some (.tup [.sl true 1 (((exA p).take n).map qe),.int .i64 0],[],0,[]):=by
 rw[xeg];have hne:exA p≠ []:=fun e=>by have:=hc.hx;rw[e]at this;cases this
 have e1:=yod p hf h0 hs hne;have e2:=xhu x0 (exA p) n hc;have hm:=hc.hm;have hn:=hc.le;generalize exA p=l at*;simp only[z5]at e1;by_cases hE:n=l.length
 ·rw[if_pos hE]at e2
  have e3:∀(k:V→Prog) (S:xb) (rd wr fr:Nat) (sk:Bool) (K:V→zj→Nat→xb→FP→Option Out) (r0:Row),(callP (zu T) T 54 [.ref 1,.fn 55 [.ptr 2 0 0]] k).go none [r0,.cells false true 35 (l.map qe),.cells true false 31 [.ref 1]] 0 S ⟨rd,wr,fr,sk⟩ K=
    (k (.ref 1)).go none [r0,.cells false true 35 (l.map qe),.cells true false 31 [.ref 1]] 0 S ⟨rd|||bit 1|||bit 2|||bit 1|||bit 2,wr|||bit 1|||bit 2|||bit 1|||bit 2,fr,sk⟩ K:=by
   intro k S rd wr fr sk K r0;refine(zhx (x:=1) (y:=2) zfd.1 rfl k (fun k'=>zkz (by omega) rfl rfl rfl 9996 k') rfl rfl rfl rfl rfl rfl e2 rfl).trans ?_;simp -implicitDefEqProofs only[go_sem,simprocAttr];rfl
  rw[hE,List.take_length];simp -implicitDefEqProofs only[go_sem,simprocAttr,z5,e1,e3]
 ·rw[if_neg hE]at e2
  have e3:∀(k:V→Prog) (S:xb) (rd wr fr:Nat) (sk:Bool) (K:V→zj→Nat→xb→FP→Option Out) (r0:Row),(callP (zu T) T 54 [.ref 1,.fn 55 [.ptr 2 0 0]] k).go none [r0,.cells false true 35 (l.map qe),.cells true false 31 [.ref 1]] 0 S ⟨rd,wr,fr,sk⟩ K=
    (k (.sub 1 0 n)).go none [r0,.cells false true 35 (clr l n),.cells true false 31 [.ref 1]] 0 S ⟨rd|||bit 1|||bit 2|||bit 1|||bit 2,wr|||bit 1|||bit 2|||bit 1|||bit 2,fr,sk⟩ K:=by
   intro k S rd wr fr sk K r0;refine(zhx (x:=1) (y:=2) zfd.1 rfl k (fun k'=>zkz (by omega) rfl rfl rfl 9996 k') rfl rfl rfl rfl rfl rfl e2 rfl).trans ?_;simp -implicitDefEqProofs only[go_sem,simprocAttr];rfl
  have ht:(clr l n).take n=(l.take n).map qe:=by
   rw[List.take_append_of_le_length (by simp;omega),List.take_take,Nat.min_self,List.map_take]
  simp -implicitDefEqProofs only[go_sem,simprocAttr,z5,e1,e3,List.drop_zero,ht]
theorem zb8(a b:Int):decide (a≥b)=decide (b≤a):=rfl
structure IsF (f:Nat) (g:Int→Int→Bool):Prop where
 c:∀a b:Int,(zu T).call f [.int .i64 a,.int .i64 b] [] 0 []=some (.bool (g a b),[],0,[])
 y:T.byref f=false
 p:T.prim f=none
 r:zf T f 4
end Go.Den.FaT
end
