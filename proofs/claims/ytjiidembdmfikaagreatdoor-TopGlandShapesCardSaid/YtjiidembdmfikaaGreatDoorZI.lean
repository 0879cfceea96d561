import Derived.Test.YtjiidembdmfikaaGreatDoorZH
import Derived.RangeFuncNested
set_option linter.all false
set_option maxHeartbeats 8000000
set_option maxRecDepth 100000
namespace Go.Den
open Go
def codeOk(T:Tab)(f:FuncId):Code→Bool
 | .seq a b=>codeOk T f a&&codeOk T f b
 | .cond _ a b=>codeOk T f a&&codeOk T f b
 | .block _ b=>codeOk T f b
 | .loop b=>codeOk T f b
 | .scope b=>codeOk T f b
 | .region id ops draw=>match draw with|true=>zpv (T.pairs f id) ops|false=>true
 | .rangeFunc _ _ a b=>codeOk T f a&&codeOk T f b
 |_=>true
def OG.has(O:OG)(b:Nat):Prop:=b=O.l∨∃id g,O.R id= .live g∧g.blk=b
def frn(Os:List OG)(b:Nat):Prop:=∃O∈Os,O.has b
def EnvR(G:Gh)(Os:List OG)(ρ:Ev)(tmps:Array Value):Prop:=∀t v,ρ t=some v→RelT G Os v (tmps.getD t Go.undef)
theorem EnvR.mono{G G':Gh}(hG:G.le G'){Os:List OG}{ρ:Ev}{tmps:Array Value}(h:EnvR G Os ρ tmps):EnvR G' Os ρ tmps:=fun t v hv=>(h t v hv).mono hG
structure OwnRel (T:Tab) (M:Nat→Option FC) (Os:List OG) (O:OG) (w:World) (own:Own):Prop where
 lrec:∃D,w.heap[O.l]? =some (.loop {state:=if own.done=true then .done else .ready,pending:=own.pending,fn:=own.fn,tmps:=O.tmps,params:=own.ps.toArray,assign:=own.assign,body:=own.body,defers:=D})
 env:EnvR ⟨M,O.R⟩ Os (fun t=>lookup t own.env) O.tmps
 nt:O.tmps.size=own.nt
 ps:zac own.nt own.ps=true
 code:codeOk T own.fn own.assign=true∧codeOk T own.fn own.body=true
 fn:own.fn=O.fn
 pend:∀c,own.pending=some c→codeOk T own.fn c=true
 heap:HeapRel ⟨M,O.R⟩ T w own.H own.Fz
 free:∀id g,O.R id= .live g→g.blk≠O.l
 low:own.fp=O.low
structure StkRel (T:Tab) (M:Nat→Option FC) (Os:List OG) (w:World) (S:xb):Prop where
 len:S.length=Os.length
 own:∀(d:Nat) own O,S[d]? =some own→Os[d]? =some O→OwnRel T M (Os.take d) O w own
 dis:∀(d e:Nat) O O' b,Os[d]? =some O→Os[e]? =some O'→O.has b→O'.has b→d=e
structure Good (T:Tab) (G:Gh) (Os:List OG) (w:World) (m:Mem):Prop where
 heap:HeapRel G T w m.H m.Fz
 mem:MRel G T w
 stk:StkRel T G.M Os w m.S
 sep:∀b,G.owns b→¬frn Os b
def OG.sig(O:OG):Nat×Array Value×FuncId:=(O.l,O.tmps,O.fn)
structure OLe (n:Nat) (O O':OG):Prop where
 sig:O'.sig=O.sig
 R:∀id,id<O.low→O.R id≠ .fresh→O'.R id≠ .fresh∧∀g,O'.R id= .live g→O.R id= .live g
 has:∀b,O'.has b→O.has b∨n≤b
 low:O'.low=O.low
theorem OLe.refl(n:Nat)(O:OG):OLe n O O:=⟨rfl,fun id _ h=>⟨h,fun g hg=>hg⟩,fun b h=> .inl h,rfl⟩
theorem OLe.trans{n n':Nat}(hn:n≤n'){O O' O'':OG}(h:OLe n O O')(h':OLe n' O' O''):OLe n O O'':=
 ⟨h'.sig.trans h.sig,fun id hl hf=>⟨(h'.R id (by rw[h.low];exact hl) (h.R id hl hf).1).1,fun g hg=>(h.R id hl hf).2 g ((h'.R id (by rw[h.low];exact hl) (h.R id hl hf).1).2 g hg)⟩,fun b hb=>(h'.has b hb).elim (h.has b) fun h1=> .inr (Nat.le_trans hn h1),h'.low.trans h.low⟩
def OwLe(n:Nat)(Os Os':List OG):Prop:=∀(d:Nat) O O',Os[d]? =some O→Os'[d]? =some O'→OLe n O O'
theorem OwLe.refl(n:Nat)(Os:List OG):OwLe n Os Os:=fun d O O' h h'=>by rw[h]at h';cases h';exact .refl n O
structure Stp (E:Nat→Prop) (G:Gh) (Os:List OG) (w:World) (G':Gh) (Os':List OG) (w':World):Prop where
 le:G.le G'
 size:w.heap.size≤w'.heap.size
 sig:Os'.map OG.sig=Os.map OG.sig
 owns:∀b,G'.owns b→G.owns b∨w.heap.size≤b
 frn:∀b,frn Os' b→frn Os b∨w.heap.size≤b
 mem:∀b c,G'.M b=some c→G.M b=some c∨G.owns b∨Den.frn Os b∨w.heap.size≤b
 keep:∀b,b<w.heap.size→¬G.owns b→¬Den.frn Os b→¬E b→w'.heap[b]? =w.heap[b]?
 ow:OwLe w.heap.size Os Os'
 oo:Oo w w'
theorem Stp.refl(E:Nat→Prop)(G:Gh)(Os:List OG)(w:World):Stp E G Os w G Os w:=⟨.refl G,Nat.le_refl _,rfl,fun _ h=> .inl h,fun _ h=> .inl h,fun _ _ h=> .inl h,fun _ _ _ _ _=>rfl,.refl _ Os,.refl w⟩
structure Stp0 (E:Nat→Prop) (G:Gh) (Os:List OG) (w:World) (G':Gh) (Os':List OG) (w':World):Prop where
 size:w.heap.size≤w'.heap.size
 sig:Os'.map OG.sig=Os.map OG.sig
 owns:∀b,G'.owns b→G.owns b∨w.heap.size≤b
 frn:∀b,frn Os' b→frn Os b∨w.heap.size≤b
 mem:∀b c,G'.M b=some c→G.M b=some c∨G.owns b∨Den.frn Os b∨w.heap.size≤b
 keep:∀b,b<w.heap.size→¬G.owns b→¬Den.frn Os b→¬E b→w'.heap[b]? =w.heap[b]?
 ow:OwLe w.heap.size Os Os'
 oo:Oo w w'
theorem Stp.trans0{E:Nat→Prop}{G1 G2 G3:Gh}{Os1 Os2 Os3:List OG}{w1 w2 w3:World}(h:Stp E G1 Os1 w1 G2 Os2 w2)(hle:G1.le G3)(h':Stp0 E G2 Os2 w2 G3 Os3 w3):Stp E G1 Os1 w1 G3 Os3 w3 where
 le:=hle
 size:=Nat.le_trans h.size h'.size
 sig:=h'.sig.trans h.sig
 owns b hb:=(h'.owns b hb).elim (h.owns b) fun h1=> .inr (Nat.le_trans h.size h1)
 frn b hb:=(h'.frn b hb).elim (h.frn b) fun h1=> .inr (Nat.le_trans h.size h1)
 mem b c hc:=by
  rcases h'.mem b c hc with h1|h1|h1|h1
  ·exact h.mem b c h1
  ·rcases h.owns b h1 with h2|h2
   ·exact .inr (.inl h2)
   ·exact .inr (.inr (.inr h2))
  ·rcases h.frn b h1 with h2|h2
   ·exact .inr (.inr (.inl h2))
   ·exact .inr (.inr (.inr h2))
  ·exact .inr (.inr (.inr (Nat.le_trans h.size h1)))
 keep b hb h1 h2 h3:=by
  rw[h'.keep b (Nat.lt_of_lt_of_le hb h.size) (fun h4=>(h.owns b h4).elim h1 fun h5=>by omega) (fun h4=>(h.frn b h4).elim h2 fun h5=>by omega) h3];exact h.keep b hb h1 h2 h3
 ow d O O'' hO hO'':=by
  have hd:d<Os2.length:=by
   have h1:=congrArg List.length h.sig;simp only[List.length_map]at h1;rw[h1];exact(List.getElem?_eq_some_iff.1 hO).1
  have hO':=List.getElem?_eq_getElem hd;exact(h.ow d O _ hO hO').trans h.size (h'.ow d _ O'' hO' hO'')
 oo:=h.oo.trans h'.oo
theorem Stp.trans{E:Nat→Prop}{G1 G2 G3:Gh}{Os1 Os2 Os3:List OG}{w1 w2 w3:World}(h:Stp E G1 Os1 w1 G2 Os2 w2)(h':Stp E G2 Os2 w2 G3 Os3 w3):Stp E G1 Os1 w1 G3 Os3 w3:=
 h.trans0 (h.le.trans h'.le) ⟨h'.size,h'.sig,h'.owns,h'.frn,h'.mem,h'.keep,h'.ow,h'.oo⟩
theorem Stp.weaken{E E':Nat→Prop}{G1 G2:Gh}{Os1 Os2:List OG}{w1 w2:World}(hE:∀b,E b→E' b)(h:Stp E G1 Os1 w1 G2 Os2 w2):Stp E' G1 Os1 w1 G2 Os2 w2:=
 ⟨h.le,h.size,h.sig,h.owns,h.frn,h.mem,fun b hb h1 h2 h3=>h.keep b hb h1 h2 fun h4=>h3 (hE b h4),h.ow,h.oo⟩
theorem Step.stp{E:Nat→Prop}{G G':Gh}{w w':World}(h:Step G w G' w')(Os:List OG):Stp E G Os w G' Os w':=
 ⟨h.le,h.size,rfl,h.owns,fun b hb=> .inl hb,fun b c hc=>(h.mem b c hc).elim .inl fun h1=>h1.elim (fun h2=> .inr (.inl h2)) fun h2=> .inr (.inr (.inr h2)),fun b hb h1 _ _=>h.keep b hb h1,.refl _ Os,h.oo⟩
theorem RelT.sig{G:Gh}{Os Os':List OG}(hs:Os'.map OG.sig=Os.map OG.sig){v:V}{x:Value}(h:RelT G Os v x):RelT G Os' v x:=by
 cases v with
 |yld n=>
  obtain⟨O,hO,rfl⟩:=h;have h1:(Os'.map OG.sig)[n]? =some O.sig:=by rw[hs,List.getElem?_map,hO];rfl
  rw[List.getElem?_map]at h1;cases hO':Os'[n]? with
  |none=>rw[hO']at h1;cases h1
  |some O'=>
   rw[hO']at h1;simp only[Option.map_some,Option.some.injEq,OG.sig,Prod.mk.injEq]at h1;exact⟨O',hO',by rw[h1.1]⟩
 |_=>exact h
theorem EnvR.sig{G:Gh}{Os Os':List OG}(hs:Os'.map OG.sig=Os.map OG.sig){ρ:Ev}{tmps:Array Value}(h:EnvR G Os ρ tmps):EnvR G Os' ρ tmps:=fun t v hv=>(h t v hv).sig hs
section
variable {T:Tab} {G G':Gh} {Os:List OG} {w w':World} {m m':Mem}
theorem HeapRel.still{R:Nat→RS}{M M':Nat→Option FC}{H:zj}{Fz:Nat}(h:HeapRel ⟨M,R⟩ T w H Fz)(hM:∀b c,M b=some c→M' b=some c)
  (hk:∀id g,R id= .live g→w'.heap[g.blk]? =w.heap[g.blk]? ∧M' g.blk=M g.blk):HeapRel ⟨M',R⟩ T w' H Fz:=
 h.upd (G':=⟨M',R⟩) ⟨hM,fun id hid=>⟨hid,fun g hg=>hg⟩⟩ (fun id r hr=> .inl ⟨hr,rfl,rfl,fun g hg=>hk id g hg⟩) h.out h.fz h.inj
theorem OwnRel.still{M M':Nat→Option FC}{O:OG}{own:Own}{Os':List OG}(hs:Os'.map OG.sig=Os.map OG.sig)(h:OwnRel T M Os O w own)(hM:∀b c,M b=some c→M' b=some c)
  (hk:∀b,O.has b→w'.heap[b]? =w.heap[b]?)(hk':∀b,O.has b→M' b=M b):OwnRel T M' Os' O w' own where
 lrec:=by obtain⟨D,hD⟩:=h.lrec;exact⟨D,(hk _ (.inl rfl)).trans hD⟩
 env:=(EnvR.mono (G:=⟨M,O.R⟩) (G':=⟨M',O.R⟩) ⟨hM,fun id hid=>⟨hid,fun g hg=>hg⟩⟩ h.env).sig hs
 nt:=h.nt
 ps:=h.ps
 code:=h.code
 fn:=h.fn
 pend:=h.pend
 heap:=h.heap.still hM fun id g hg=>⟨hk _ (.inr ⟨id,g,hg,rfl⟩),hk' _ (.inr ⟨id,g,hg,rfl⟩)⟩
 free:=h.free
 low:=h.low
theorem StkRel.still{M M':Nat→Option FC}{S:xb}(h:StkRel T M Os w S)(hM:∀b c,M b=some c→M' b=some c)(hk:∀b,frn Os b→w'.heap[b]? =w.heap[b]?)(hk':∀b,frn Os b→M' b=M b):
  StkRel T M' Os w' S where
 len:=h.len
 own d own O hd hO:=(h.own d own O hd hO).still rfl hM (fun b hb=>hk b ⟨O,List.mem_of_getElem? hO,hb⟩) (fun b hb=>hk' b ⟨O,List.mem_of_getElem? hO,hb⟩)
 dis:=h.dis
theorem OwnRel.lt{M:Nat→Option FC}{O:OG}{own:Own}(h:OwnRel T M Os O w own){b:Nat}(hb:O.has b):b<w.heap.size:=by
 rcases hb with rfl|⟨id,g,hg,rfl⟩
 ·obtain⟨D,hD⟩:=h.lrec;exact(Array.getElem?_eq_some_iff.1 hD).1
 ·exact h.heap.lt (G:=⟨M,O.R⟩) ⟨id,g,hg,rfl⟩
theorem StkRel.lt{M:Nat→Option FC}{S:xb}(h:StkRel T M Os w S){b:Nat}(hb:frn Os b):b<w.heap.size:=by
 obtain⟨O,hO,hb⟩:=hb;obtain⟨d,hd,rfl⟩:=List.mem_iff_getElem.1 hO;have hd':d<S.length:=by rw[h.len];exact hd
 exact(h.own d S[d] Os[d] (List.getElem?_eq_getElem hd') (List.getElem?_eq_getElem hd)).lt hb
theorem za4{E:Nat→Prop}{Os':List OG}(hs:Stp E G Os w G' Os' w'){b:Nat}(h1:¬G.owns b)(h2:¬frn Os b)(h3:b<w.heap.size):G'.M b=G.M b:=by
 cases hb:G'.M b with
 |none=>
  cases hb':G.M b with
  |none=>rfl
  |some c=>rw[hs.le.M b c hb']at hb;cases hb
 |some c=>
  rcases hs.mem b c hb with h|h|h|h
  ·exact h.symm
  ·exact absurd h h1
  ·exact absurd h h2
  ·omega
theorem Good.local(h:Good T G Os w m)(hs:Step G w G' w')(hH:HeapRel G' T w' m'.H m'.Fz)(hM:MRel G' T w')(hS:m'.S=m.S):Good T G' Os w' m':=by
 have hlt:∀b,frn Os b→b<w.heap.size:=fun b hb=>h.stk.lt hb;have hno:∀b,frn Os b→¬G.owns b:=fun b hb ho=>h.sep b ho hb
 have hMs:∀b,frn Os b→G'.M b=G.M b:=by
  intro b hb;cases hx:G'.M b with
  |none=>
   cases hy:G.M b with
   |none=>rfl
   |some c=>rw[hs.le.M b c hy]at hx;cases hx
  |some c=>
   rcases hs.mem b c hx with h1|h1|h1
   ·exact h1.symm
   ·exact absurd h1 (hno b hb)
   ·have:=hlt b hb;omega
 refine⟨hH,hM,?_,fun b hb hf=> ?_⟩
 ·rw[hS];exact h.stk.still hs.le.M (fun b hb=>hs.keep b (hlt b hb) (hno b hb)) hMs
 ·rcases hs.owns b hb with h1|h1
  ·exact h.sep b h1 hf
  ·have:=hlt b hf;omega
def Gh.bare(G:Gh):Gh:=⟨G.M,fun _=> .fresh⟩
theorem yx{G:Gh}{b:Nat}:¬G.bare.owns b:=fun⟨id,g,hg,_⟩=>by simp[Gh.bare]at hg
theorem zhr(G:Gh)(w:World):HeapRel G.bare T w [] 0:=⟨fun id r hr=>by simp at hr,fun id _=>rfl,fun id hz=>by simp at hz,fun id id' g g' hg=>by simp[Gh.bare]at hg⟩
theorem MRel.of{G G':Gh}(h:MRel G T w)(hM:G'.M=G.M)(hg:∀g cs,T.glob g=some cs→pureL cs=true):MRel G' T w:=by
 refine⟨fun b c hc=>h.mem b c (hM▸hc),fun g cs hcs=> ?_⟩;obtain⟨c,h1,h2,h3,h4⟩:=h.glob g cs hcs;exact⟨c,hM▸h1,⟨h2.1,fun i v x hv hx=>(h2.2 i v x hv hx).pure (fun b c hc=>by rw[hM];exact hc) (pureL_iff.1 h3 v (List.mem_of_getElem? hv))⟩,h3,h4⟩
theorem MRel.bare(h:MRel G T w):MRel G.bare T w:=h.of rfl fun g cs hcs=>by obtain⟨_,_,_,h3,_⟩:=h.glob g cs hcs;exact h3
theorem back{E:Nat→Prop}{Gc:Gh}{Os':List OG}(hg:Good T G Os w m)(hs:Stp E G.bare Os w Gc Os' w')(hM:MRel Gc T w')(hE:∀b,G.owns b→¬E b):
  Stp E G Os w ⟨Gc.M,G.R⟩ Os' w'∧HeapRel ⟨Gc.M,G.R⟩ T w' m.H m.Fz∧MRel ⟨Gc.M,G.R⟩ T w'∧(∀b,G.owns b→¬frn Os' b):=by
 have hlt:∀b,G.owns b→b<w.heap.size:=fun b hb=>hg.heap.lt hb
 have key:∀b,G.owns b→w'.heap[b]? =w.heap[b]? ∧Gc.M b=G.M b:=fun b hb=>
  ⟨hs.keep b (hlt b hb) yx (hg.sep b hb) (hE b hb),za4 hs yx (hg.sep b hb) (hlt b hb)⟩
 refine⟨⟨⟨hs.le.M,fun id hid=>⟨hid,fun g hg=>hg⟩⟩,hs.size,hs.sig,fun b hb=> .inl hb,hs.frn,fun b c hc=> ?_,fun b hb h1 h2 h3=>hs.keep b hb yx h2 h3,hs.ow,hs.oo⟩,?_,?_,fun b hb hf=> ?_⟩
 ·rcases hs.mem b c hc with h|h|h|h
  ·exact .inl h
  ·exact absurd h yx
  ·exact .inr (.inr (.inl h))
  ·exact .inr (.inr (.inr h))
 ·exact hg.heap.still (M:=G.M) (R:=G.R) hs.le.M fun id g hid=>key _ ⟨id,g,hid,rfl⟩
 ·exact hM.of rfl fun g cs hcs=>by obtain⟨_,_,_,h3,_⟩:=hM.glob g cs hcs;exact h3
 ·rcases hs.frn b hf with h|h
  ·exact hg.sep b hb h
  ·have:=hlt b hb;omega
end
def RelLT(G:Gh)(Os:List OG)(l:List V)(xs:Array Value):Prop:=LRelT G Os l xs.toList
def zcs(P:Program)(T:Tab)(ih:Ih):Prop:=
 ∀f args H Fz S v H' Fz' S',ih.call f args H Fz S=some (v,H',Fz',S')→∀G Os w (xs:Array Value),RelLT G Os args xs→Good T G Os w ⟨H,Fz,S⟩→(T.byref f=false→H= []∧Fz=0)→
  CallsIn Fence.wide 0 P f xs w fun e w'=>∃y G' Os',e= .returned y∧Rel G' v y∧Stp (fun _=>False) G Os w G' Os' w'∧Good T G' Os' w' ⟨H',Fz',S'⟩∧(T.byref f=false→H'= []∧pureV v=true)
def zd8(P:Program)(T:Tab)(ih:Ih):Prop:=
 ∀n args S b S',ih.yld n args S=some (b,S')→∀G Os w H Fz (xs:Array Value),RelLT G Os args xs→pureL args=true→z9 args=false→Good T G Os w ⟨H,Fz,S⟩→
  ∃O r,Os[n]? =some O∧w.heap[O.l]? =some (.loop r)∧xs.size=r.params.size∧
   RoundIn Fence.wide 0 P O.l r.fn ((r.params.zip xs).foldl (fun tmps (t,a)=>tmps.setIfInBounds t a) r.tmps) r.assign r.body w fun e w'=>∃G' Os',e= .returned (.bool b)∧Stp (fun _=>False) G Os w G' Os' w'∧Good T G' Os' w' ⟨H,Fz,S'⟩
def zoz(P:Program)(T:Tab):Prop:=
 ∀f p args v,T.prim f=some p→p args=some v→∀G w (xs:Array Value),LRel G args xs.toList→pureL args=true→MRel G T w→
  ((callFunc f xs).run P w= .ok (.enter f xs) w∧CallsIn Fence.wide 0 P f xs w fun e w'=>∃y G',e= .returned y∧Rel G' v y∧pureV v=true∧Step G.bare w G' w'∧HeapRel G' T w' [] 0∧MRel G' T w')∨
   (∃y w',(callFunc f xs).run P w= .ok (.value y) w'∧Drw w w'∧Rel G.bare v y∧pureV v=true)
structure FnOk (P:Program) (T:Tab) (f:FuncId) (fn:Func):Prop where
 name:(fn.name== "runtime.NumGoroutine")=false
 body:∃c,fn.body=some c∧codeOk T f c=true
structure FnsOk (P:Program) (T:Tab):Prop where
 code:∀f fn c,T.fn f=some fn→fn.body=some c→codeOk T f c=true
 fn:∀f fn,T.fn f=some fn→T.byref f=true∨T.prim f=none→FnOk P T f fn
 mixed:P.follows .mixedOrders=true
 prim:zoz P T
section
variable {P:Program} {T:Tab} {slot:Option Nat} {m m':Mem} {x:V} {ih:Ih}
theorem za8{l:List V}:z9 l=false↔∀v∈l,zm v=false:=by
 induction l with
 |nil=>simp[z9]
 |cons v l ih=>simp[z9,ih]
theorem ytd{α:Type}{n:Nat}:∀{ts:List TypeId} {cs acc:List V} {k:List V→Option α} {r:α},shParts (shape T n) ts cs acc k=some r→
  ∃l,k (acc++l)=some r∧l.length=ts.length∧∀G xs,LRel G cs xs→LRel G l (xs.take l.length):=by
 intro ts
 induction ts with
 |nil=>intro cs acc k r h;exact⟨[],by simpa[shParts]using h,rfl,fun G xs _=>by simpa using LRel.nil G⟩
 |cons t ts ihf=>
  intro cs acc k r h;simp only[shParts]at h;obtain⟨c,hc,h⟩:=jb h;obtain⟨w,hw,hs⟩:=wm _ _ _ _ _ h;obtain⟨l,hl,hn,hr⟩:=ihf hw;refine⟨w::l,by simpa using hl,by simp[hn],fun G xs hx=> ?_⟩;obtain⟨x,hx0,hcx⟩:=hx.get hc;cases xs with
  |nil=>simp at hx0
  |cons y ys=>
   simp only[List.getElem?_cons_zero,Option.some.injEq]at hx0;subst hx0;have h2:=hr G _ (hx.drop 1);simp only[List.drop_succ_cons,List.drop_zero]at h2;simpa using (LRel.one (hs G _ hcx)).append h2
theorem zei{α:Type}{f:FuncId}{v:V}{k:V→Option α}{r:α}(h:qu T f v k=some r):∃fn v',T.fn f=some fn∧k v'=some r∧Same v v':=by
 unfold qu at h;split at h
 ·rename_i fn hfn
  split at h
  ·exact⟨fn,v,hfn,h,.refl v⟩
  ·obtain⟨v',h1,h2⟩:=wm _ _ _ _ _ h;exact⟨fn,v',hfn,h1,h2⟩
  ·rename_i ts _ _
   obtain⟨vs,rfl,h⟩:=zor h;obtain⟨hb,h⟩:=xf h;obtain⟨l,hl,hn,hr⟩:=ytd h;simp only[List.nil_append]at hl;refine⟨fn,_,hfn,hl,fun G x hx=> ?_⟩;obtain⟨a,rfl,hA⟩:=hx.tup';have h2:=hr G _ hA
   have:a.toList.take l.length=a.toList:=by
    apply List.take_of_length_le;rw[hA.1,Nat.eq_of_beq_eq_true hb,hn];exact Nat.le_refl _
   rw[this]at h2;exact h2.toTup
 ·cases h
theorem xgb{G Gc:Gh}{Os Os':List OG}{w w':World}{m:Mem}{S':xb}(hg:Good T G Os w m)(hs:Stp (fun _=>False) G.bare Os w Gc Os' w')(hM:MRel Gc T w')(hS:StkRel T Gc.M Os' w' S'):
  Stp (fun _=>False) G Os w ⟨Gc.M,G.R⟩ Os' w'∧Good T ⟨Gc.M,G.R⟩ Os' w' ⟨m.H,m.Fz,S'⟩:=by
 obtain⟨h1,h2,h3,h4⟩:=back hg hs hM (fun _ _ h=>h);exact⟨h1,h2,h3,hS,h4⟩
theorem w6{b:Nat}:¬frn [] b:=fun⟨O,hO,_⟩=>by cases hO
theorem Stp.noLoops{G Gc:Gh}{Os:List OG}{w w':World}{m:Mem}(hg:Good T G Os w m)(hs:Stp (fun _=>False) G.bare [] w Gc [] w'):
  Stp (fun _=>False) G.bare Os w Gc Os w'∧StkRel T Gc.M Os w' m.S:=by
 refine⟨⟨hs.le,hs.size,rfl,hs.owns,fun b hb=> .inl hb,fun b c hc=> ?_,fun b hb h1 h2 h3=>hs.keep b hb h1 w6 h3,.refl _ Os,hs.oo⟩,?_⟩
 ·rcases hs.mem b c hc with h|h|h|h
  ·exact .inl h
  ·exact .inr (.inl h)
  ·exact absurd h w6
  ·exact .inr (.inr (.inr h))
 ·exact hg.stk.still hs.le.M (fun b hb=>hs.keep b (hg.stk.lt hb) yx w6 id) (fun b hb=>za4 hs yx w6 (hg.stk.lt hb))
theorem Rel.bare{G:Gh}{v:V}{y:Value}(h:Rel G v y)(hp:pureV v=true):Rel G.bare v y:=Rel.pure (G:=G) (G':=G.bare) (fun _ _ h=>h) h hp
def zkd(P:Program)(T:Tab)(yl:Bool)(f:FuncId)(G:Gh)(Os:List OG)(w:World)(xs:Array Value)(v:V)(m1:Mem):Prop:=
 ((callFunc f xs).run P w= .ok (.enter f xs) w∧CallsIn Fence.wide 0 P f xs w fun e w'=>∃y G' Os',e= .returned y∧Rel G' v y∧Stp (fun _=>False) G Os w G' Os' w'∧Good T G' Os' w' m1)∨
  (yl=false∧∃y w',(callFunc f xs).run P w= .ok (.value y) w'∧∃G' Os',Rel G' v y∧Stp (fun _=>False) G Os w G' Os' w'∧Good T G' Os' w' m1)
theorem Step.drw{G:Gh}{w w':World}(h:Drw w w'):Step G w G w':=by
 rcases h with rfl|rfl
 ·exact .refl G _
 ·exact⟨.refl G,Nat.le_refl _,fun _ h=> .inl h,fun _ _ h=> .inl h,fun _ _ _=>rfl,rfl,rfl⟩
theorem MRel.drw{G:Gh}{T:Tab}{w w':World}(h:Drw w w')(hM:MRel G T w):MRel G T w':=by
 rcases h with rfl|rfl
 ·exact hM
 ·exact⟨hM.mem,hM.glob⟩
theorem zgl(hT:TabOk P T)(hF:FnsOk P T){f:FuncId}{fn:Func}(h:T.fn f=some fn)(hpr:T.byref f=true∨T.prim f=none)(xs:Array Value)(w:World):(callFunc f xs).run P w= .ok (.enter f xs) w:=by
 have h1:=hT.fn f fn h;have h2:=hF.fn f fn h hpr;obtain⟨c,hc,_⟩:=h2.body;have hn:¬fn.name= "runtime.NumGoroutine" :=by simpa using h2.name
 simp[callFunc,h1,hn,hc]
theorem xgd(hT:TabOk P T)(hF:FnsOk P T)(hC:zcs P T ih){f:FuncId}(hb:T.byref f=false){args:List V}{k:V→Prog}(h:Res slot (callP ih T f args k) m x m'):
  ∃v m1,Res slot (k v) m1 x m'∧∀(G:Gh) (Os:List OG) (w:World) (xs:Array Value),RelLT G Os args xs→Good T G Os w m→zkd P T (z9 args) f G Os w xs v m1:=by
 unfold callP at h;rw[hb]at h;simp only at h
 obtain⟨args',m0,h,hS0,hl,hk,hf⟩:=zgg h
  -- the arguments, frozen
 have frz:∀(G:Gh) (Os:List OG) (w:World) (xs:Array Value),RelLT G Os args xs→Good T G Os w m→∃G1,Stp (fun _=>False) G Os w G1 Os w∧Good T G1 Os w m0∧pureL args'=true∧RelLT G1 Os args' xs:=by
  intro G Os w xs hx hg;obtain⟨G1,f1,hp,r1⟩:=hf G w hg.heap hg.mem;refine⟨G1,f1.step.stp Os,hg.local f1.step f1.heap f1.mem hS0,hp,by rw[hl];exact hx.1,fun i v y hv hy=> ?_⟩;have hi:i<args.length:=by rw[←hl];exact(List.getElem?_eq_some_iff.1 hv).1
  have hiv:=List.getElem?_eq_getElem hi;have hr:=hx.2 i _ y hiv hy;have hkk:=hk i _ v hiv hv;cases hyl:zm args[i]with
  |false=>exact(r1 i _ v y hiv hv (hr.rel hyl)).toT
  |true=>
   cases ha:args[i]<;>rw[ha]at hyl<;>simp[zm]at hyl;rename_i n;rw[ha]at hr;rw[hkk.same n ha];exact hr
  -- the way back
 have fin:∀(G G1 Gc:Gh) (Os Os':List OG) (w w':World) (S':xb) (v v':V) (y:Value),Stp (fun _=>False) G Os w G1 Os w→Good T G1 Os w m0→Stp (fun _=>False) G1.bare Os w Gc Os' w'→MRel Gc T w'→StkRel T Gc.M Os' w' S'→Rel Gc v y→pureV v=true→Same v v'→
   ∃y' G' Os'',(Ending.returned y= .returned y')∧Rel G' v' y'∧Stp (fun _=>False) G Os w G' Os'' w'∧Good T G' Os'' w' ⟨m0.H,m0.Fz,S'⟩:=by
  intro G G1 Gc Os Os' w w' S' v v' y h1 h2 h3 h4 h5 h6 h7 h8;obtain⟨b1,b2⟩:=xgb h2 h3 h4 h5;exact⟨y,⟨Gc.M,G1.R⟩,Os',rfl,h8 _ _ (Rel.pure (G:=Gc) (G':=⟨Gc.M,G1.R⟩) (fun _ _ h=>h) h6 h7),h1.trans b1,b2⟩
 split at h
 ·rename_i p hp
  have hyl:=h.needP.1;replace h:=h.needP.2;obtain⟨v,hv,h⟩:=h.optP;obtain⟨q,hq,h⟩:=h.toP;obtain⟨fn,v',hfn,hq,hsame⟩:=zei hq;simp only[Option.some.injEq]at hq;subst hq;refine⟨v',m0,h,fun G Os w xs hx hg=> ?_⟩;obtain⟨G1,s1,g1,hpu,hx1⟩:=frz G Os w xs hx hg;have hy:=za8.1 (by simpa using hyl);rcases hF.prim f p args' v hp hv G1 w xs ⟨hx1.1,fun i a b ha hb=>(hx1.2 i a b ha hb).rel (hy a (List.mem_of_getElem? ha))⟩ hpu g1.mem with⟨hrun,hcc⟩|⟨y,w',hrun,hdr,hr,hpv⟩
  rotate_left
  ·have hy0:z9 args=false:=za8.2 fun a ha=>by
    obtain⟨i,hi,rfl⟩:=List.mem_iff_getElem.1 ha;have hi':i<args'.length:=by rw[hl];exact hi
    have:=(hk i _ _ (List.getElem?_eq_getElem hi) (List.getElem?_eq_getElem hi')).yld;rw[←this];exact hy _ (List.getElem_mem hi')
   have hst:Step G1.bare w G1.bare w':=Step.drw hdr;have hm:MRel G1.bare T w':=MRel.drw hdr g1.mem.bare;have hs:=(hst.stp (E:=fun _=>False) []);obtain⟨n1,n2⟩:=Stp.noLoops g1 hs;obtain⟨y',G',Os'',e0,e1,e2,e3⟩:=fin G G1 G1.bare Os Os w w' m0.S v v' y s1 g1 n1 hm n2 hr hpv hsame;cases e0;exact .inr ⟨hy0,y,w',hrun,G',Os'',e1,e2,e3⟩
  refine .inl ⟨hrun,hcc.mono ?_⟩;rintro e w' ⟨y,Gc,rfl,hr,hpv,hst,hh,hm⟩;have hs:=(hst.stp (E:=fun _=>False) []);obtain⟨n1,n2⟩:=Stp.noLoops g1 hs;have:=fin G G1 Gc Os Os w w' m0.S v v' y s1 g1 n1 hm n2 hr hpv hsame;exact this
 ·rename_i hp
  cases hy:z9 args' with
  |false=>
   rw[hy]at h;simp only[withStk]at h;obtain⟨⟨v,H',Fz',S'⟩,hcall,h⟩:=h.optP;simp only at h;split at h
   ·obtain⟨q,hq,h⟩:=h.toP
    obtain⟨fn,v',hfn,hq,hsame⟩:=zei hq;simp only[Option.some.injEq]at hq;subst hq;refine⟨v',m0,h,fun G Os w xs hx hg=> .inl ⟨zgl hT hF hfn (.inr hp) xs w,?_⟩⟩;obtain⟨G1,s1,g1,hpu,hx1⟩:=frz G Os w xs hx hg;have hyv:=za8.1 hy;have hxb:RelLT G1.bare [] args' xs:=⟨hx1.1,fun i a b ha hb=>(((hx1.2 i a b ha hb).rel (hyv a (List.mem_of_getElem? ha))).bare (pureL_iff.1 hpu a (List.mem_of_getElem? ha))).toT⟩;have hgb:Good T G1.bare [] w ⟨[],0,[]⟩:=⟨zhr G1 w,g1.mem.bare,⟨rfl,fun d own O hd=>by simp at hd,fun d e O O' b hO=>by simp at hO⟩,fun b hb=>absurd hb yx⟩;refine(hC f args' [] 0 [] v H' Fz' [] hcall G1.bare [] w xs hxb hgb (fun _=>⟨rfl,rfl⟩)).mono ?_;rintro e w' ⟨y,Gc,Os',rfl,hr,hs,hgd,hpv⟩;have:Os'= []:=by have:=hs.sig;simpa using this
    subst this;obtain⟨n1,n2⟩:=Stp.noLoops g1 hs;exact fin G G1 Gc Os Os w w' m0.S v v' y s1 g1 n1 hgd.mem n2 hr (hpv hb).2 hsame
   ·exact h.fail.elim
  |true=>
   rw[hy]at h;simp only[withStk]at h;replace h:=h.stk;obtain⟨⟨v,H',Fz',S'⟩,hcall,h⟩:=h.optP;simp only at h;replace h:=h.setStk;obtain⟨q,hq,h⟩:=h.toP;obtain⟨fn,v',hfn,hq,hsame⟩:=zei hq;simp only[Option.some.injEq]at hq;subst hq;refine⟨v',_,h,fun G Os w xs hx hg=> .inl ⟨zgl hT hF hfn (.inr hp) xs w,?_⟩⟩;obtain⟨G1,s1,g1,hpu,hx1⟩:=frz G Os w xs hx hg
   have hxb:RelLT G1.bare Os args' xs:=⟨hx1.1,fun i a b ha hb=>by
    have h1:=hx1.2 i a b ha hb;cases hya:zm a with
    |false=>exact((h1.rel hya).bare (pureL_iff.1 hpu a (List.mem_of_getElem? ha))).toT
    |true=>cases a<;>simp[zm]at hya;exact h1⟩
   have hgb:Good T G1.bare Os w ⟨[],0,m0.S⟩:=⟨zhr G1 w,g1.mem.bare,g1.stk,fun b hb=>absurd hb yx⟩;refine(hC f args' [] 0 m0.S v H' Fz' S' hcall G1.bare Os w xs hxb hgb (fun _=>⟨rfl,rfl⟩)).mono ?_;rintro e w' ⟨y,Gc,Os',rfl,hr,hs,hgd,hpv⟩;exact fin G G1 Gc Os Os' w w' S' v v' y s1 g1 hs hgd.mem hgd.stk hr (hpv hb).2 hsame
end
def za7(P:Program)(T:Tab)(ih:Ih):Prop:=
 ∀(slot:Option Nat) (f:FuncId) (args:List V) (k:V→Prog) (m:Mem) (x:V) (m':Mem),Res slot (callP ih T f args k) m x m'→
  ∃v m1,Res slot (k v) m1 x m'∧∀(G:Gh) (Os:List OG) (w:World) (xs:Array Value),RelLT G Os args xs→Good T G Os w m→zkd P T (z9 args) f G Os w xs v m1
def kn:Option Nat→Fence
 |none=>Fence.wide
 |some l=>Fence.wide.inRound l
theorem xax(ro:Option Nat):(kn ro).round=ro:=by cases ro<;>rfl
theorem fen_depth(ro:Option Nat):(kn ro).depth=none:=by cases ro<;>rfl
theorem zni(ro:Option Nat)(f:FuncId):(kn ro).fn f:=by cases ro<;>trivial
theorem xay{ro:Option Nat}{n:Nat}{P:Program}{f:FuncId}{xs:Array Value}{w:World}{R:Ending→World→Prop}(h:CallsIn Fence.wide n P f xs w R):CallsIn (kn ro) n P f xs w R:=by
 cases ro with
 |none=>exact h
 |some l=>exact h
theorem xaw{ro:Option Nat}{n:Nat}{P:Program}{l:Nat}{f:FuncId}{tmps:Array Value}{assign body:Code}{w:World}{R:Ending→World→Prop}(h:RoundIn Fence.wide n P l f tmps assign body w R):
  RoundIn (kn ro) n P l f tmps assign body w R:=by
 cases ro with
 |none=>exact h
 |some l=>exact h
section
variable {P:Program} {T:Tab} {slot:Option Nat} {m m':Mem} {x:V} {ih:Ih} {raw:Bool}
theorem yl6{G:Gh}{Os:List OG}{a:Act}{ev:Operand→V}(he:OpEnv G Os ev a.eval)(l:Array Operand):RelLT G Os (l.toList.map ev) (l.map a.eval):=by
 refine⟨by simp,fun i v y hv hy=> ?_⟩;rw[List.getElem?_map]at hv;rw[Array.getElem?_toList,Array.getElem?_map]at hy;rw[Array.getElem?_toList]at hv;cases hp:l[i]? with
 |none=>rw[hp]at hv;cases hv
 |some p=>
  rw[hp]at hv hy;simp only[Option.map_some,Option.some.injEq]at hv hy;subst hv;subst hy;exact he p
theorem xgc(hT:TabOk P T)(hC:za7 P T ih)(hY:zd8 P T ih){fv:V}{args:List V}{k:V→Prog}(h:Res slot (callV ih T fv args k) m x m'):
  ∃v m1,Res slot (k v) m1 x m'∧∀(G:Gh) (Os:List OG) (w:World) (y:Value) (xs:Array Value),RelT G Os fv y→RelLT G Os args xs→Good T G Os w m→
   ∃d nx w1,(Deferred.ofValue y xs).run P w= .ok d w∧(invoke d.target d.args).run P w= .ok nx w1∧
    ((∃f ys,nx= .enter f ys∧w1=w∧CallsIn Fence.wide 0 P f ys w fun e w'=>∃y G' Os',e= .returned y∧Rel G' v y∧Stp (fun _=>False) G Os w G' Os' w'∧Good T G' Os' w' m1)∨
     (∃l f tmps assign body,nx= .round l f tmps assign body∧w1=w∧RoundIn Fence.wide 0 P l f tmps assign body w fun e w'=>∃y G' Os',e= .returned y∧Rel G' v y∧Stp (fun _=>False) G Os w G' Os' w'∧Good T G' Os' w' m1)∨
     (∃y,nx= .value y∧∃G' Os',Rel G' v y∧Stp (fun _=>False) G Os w G' Os' w1∧Good T G' Os' w1 m1)):=by
 unfold callV at h;split at h
 ·rename_i f cap
  obtain⟨v,m1,h,hr⟩:=hC slot f _ k m x m' h;refine⟨v,m1,h,fun G Os w y xs hy hx hg=> ?_⟩;cases (show Rel G (.fn f cap) y from hy)with
  |fn _ _ a hs ha=>
   have hcl:zd0 args cap=args++cap:=by
    cases cap with
    |nil=>rfl
    |cons c r=>
     cases c<;>first|rfl|(have:=ha 0 _ _ rfl (Array.getElem?_eq_getElem (by simp at hs;omega));cases this)
   rw[hcl]at hr
   have hl:RelLT G Os (args++cap) (xs++a):=by
    refine⟨by have:=hx.1;simp[hs]at this⊢;omega,fun i v y hv hy=> ?_⟩;have hxl:xs.size=args.length:=by have:=hx.1;simpa using this
    simp only[Array.toList_append]at hy;by_cases hi:i<args.length
    ·rw[List.getElem?_append_left hi]at hv
     rw[List.getElem?_append_left (by simpa[hxl]using hi)]at hy;exact hx.2 i v y hv hy
    ·rw[List.getElem?_append_right (by omega)]at hv
     rw[List.getElem?_append_right (by simp[hxl];omega)]at hy;simp only[Array.length_toList,hxl,Array.getElem?_toList]at hy;exact(ha _ v y hv hy).toT
   rcases hr G Os w (xs++a) hl hg with⟨h1,h2⟩|⟨_,y,w1,h1,h2⟩
   ·refine⟨{target:= .fn (.func f) a,args:= #[]++xs},_,_,rfl,?_,.inl ⟨f,_,rfl,rfl,h2⟩⟩
    simp only[invoke];rw[Array.empty_append];exact h1
   ·refine⟨{target:= .fn (.func f) a,args:= #[]++xs},_,_,rfl,?_,.inr (.inr ⟨y,rfl,h2⟩)⟩
    simp only[invoke];rw[Array.empty_append];exact h1
  |mth _ n first a hs ha=>
   have hr:∀(G:Gh) (Os:List OG) (w:World) (xs:Array Value),RelLT G Os (first++args) xs→Good T G Os w m→zkd P T (z9 (first++args)) f G Os w xs v m1:=hr
   have hl:RelLT G Os (first++args) (a++xs):=by
    refine⟨by have:=hx.1;simp[hs]at this⊢;omega,fun i v y hv hy=> ?_⟩;simp only[Array.toList_append]at hy;by_cases hi:i<first.length
    ·rw[List.getElem?_append_left hi]at hv
     rw[List.getElem?_append_left (by simpa[hs]using hi)]at hy;exact(ha i v y hv (by simpa using hy)).toT
    ·rw[List.getElem?_append_right (by omega)]at hv
     rw[List.getElem?_append_right (by simp[hs];omega)]at hy;simp only[Array.length_toList,hs]at hy;exact hx.2 _ v y hv hy
   rcases hr G Os w (a++xs) hl hg with⟨h1,h2⟩|⟨_,y,w1,h1,h2⟩
   ·refine⟨{target:= .fn (.func f) #[],args:=a++xs},_,_,rfl,?_,.inl ⟨f,_,rfl,rfl,h2⟩⟩
    simp only[invoke];rw[Array.append_empty];exact h1
   ·refine⟨{target:= .fn (.func f) #[],args:=a++xs},_,_,rfl,?_,.inr (.inr ⟨y,rfl,h2⟩)⟩
    simp only[invoke];rw[Array.append_empty];exact h1
 ·rename_i n
  obtain⟨args',m0,h,hS0,hl,hk,hf⟩:=zgg h;have hyl:=h.needP.1;replace h:=h.needP.2;replace h:=h.stk;obtain⟨⟨b,S'⟩,hcall,h⟩:=h.optP;simp only at h;replace h:=h.setStk;refine⟨_,_,h,fun G Os w y xs hy hx hg=> ?_⟩;obtain⟨O,hO,rfl⟩:=hy;obtain⟨G1,f1,hpu,r1⟩:=hf G w hg.heap hg.mem;have hyl':z9 args'=false:=by simpa using hyl
  have hx1:RelLT G1 Os args' xs:=⟨by rw[hl];exact hx.1,fun i v y hv hy=>by
   have hi:i<args.length:=by rw[←hl];exact(List.getElem?_eq_some_iff.1 hv).1
   have hiv:=List.getElem?_eq_getElem hi;refine(r1 i _ v y hiv hv ((hx.2 i _ y hiv hy).rel ?_)).toT;rw[←(hk i _ v hiv hv).yld];exact za8.1 hyl' v (List.mem_of_getElem? hv)⟩
  have hg1:=hg.local f1.step f1.heap f1.mem hS0;obtain⟨O',r,hO',hrec,hsz,hround⟩:=hY n args' m0.S b S' hcall G1 Os w m0.H m0.Fz xs hx1 hpu hyl' hg1;rw[hO]at hO';cases hO';refine⟨{target:= .fn (.yield O.l) #[],args:= #[]++xs},_,_,rfl,?_,.inr (.inl ⟨O.l,r.fn,_,r.assign,r.body,rfl,rfl,hround.mono ?_⟩)⟩
  ·simp[invoke,Instr.yield,Instr.getLoop,getObj,Sem.run,hrec,hsz]
  ·rintro e w' ⟨G',Os',rfl,hst,hgd⟩
   exact⟨.bool b,G',Os',rfl,.bool b,(f1.step.stp Os).trans hst,hgd⟩
 ·exact h.fail.elim
theorem yuo(hT:TabOk P T)(hC:za7 P T ih)(hY:zd8 P T ih){ro:Option Nat}{o:Oper}{a:Act}{ev:Operand→V}{G:Gh}{Os:List OG}{w:World}{next:Act→World→Prop}{Q:Exit→Act→World→Prop}
  (h:Res slot (opP ih T raw ev o) m x m')(he:OpEnv G Os ev a.eval)(hg:Good T G Os w m)
  (hnext:∀y w' G' Os',RelT G' Os' x y→Stp (fun _=>False) G Os w G' Os' w'→Good T G' Os' w' m'→next (a.put o.dst y) w'):o.uponIn (kn ro) 0 P a next Q ((execOp a.eval o).run P w):=by
 by_cases hc:∀c,o.op= .call c→∃b,c.callee= .builtin b
 ·obtain⟨hS,hr⟩:=yup (P:=P) hT hc h
  obtain⟨nx,y,w',G',e1,e2,e3,e4,e5,e6⟩:=(hr G Os w a.eval he hg.heap hg.mem).ex;have hn:=hnext y w' G' Os e6 (e3.stp Os) (hg.local e3 e4 e5 hS);rw[e1];rcases e2 with rfl|⟨rfl,rfl⟩
  ·exact hn
  ·exact hn
 ·-- a call of a function
  obtain⟨c,hoc,hcb⟩:∃c,o.op= .call c∧¬∃b,c.callee= .builtin b:=by
   refine Classical.byContradiction fun hno=>hc fun c hcc=> ?_;refine Classical.byContradiction fun hb=>hno ⟨c,hcc,hb⟩
  obtain⟨dst,op,type,pos,after,guard⟩:=o;simp only at hoc;subst hoc;have hex:execOp a.eval ⟨dst,.call c,type,pos,after,guard⟩=(do let d←resolve a.eval c type;invoke d.target d.args):=rfl;rw[hex]
  have hdep:((kn ro).depth.isSome=true→1≤0):=by rw[fen_depth];simp
    -- the two ways out
  have fin:∀(v:V) (m1:Mem) (y0:Value) (xs:Array Value),x=v→m'=m1→c.callee= .value (match c.callee with| .value f=>f|_=> .global 0)→True→
    ∀d nx w1,(resolve a.eval c type).run P w= .ok d w→(invoke d.target d.args).run P w= .ok nx w1→
    ((∃f ys,nx= .enter f ys∧w1=w∧CallsIn Fence.wide 0 P f ys w fun e w'=>∃y G' Os',e= .returned y∧Rel G' v y∧Stp (fun _=>False) G Os w G' Os' w'∧Good T G' Os' w' m1)∨
     (∃l f tmps assign body,nx= .round l f tmps assign body∧w1=w∧RoundIn Fence.wide 0 P l f tmps assign body w fun e w'=>∃y G' Os',e= .returned y∧Rel G' v y∧Stp (fun _=>False) G Os w G' Os' w'∧Good T G' Os' w' m1)∨
     (∃y,nx= .value y∧∃G' Os',Rel G' v y∧Stp (fun _=>False) G Os w G' Os' w1∧Good T G' Os' w1 m1))→
    Oper.uponIn (kn ro) 0 P ⟨dst,.call c,type,pos,after,guard⟩ a next Q ((do let d←resolve a.eval c type;invoke d.target d.args:Sem Next).run P w):=by
   intro v m1 y0 xs hxv hmm _ _ d nx w1 h1 h2 h3;subst hxv;subst hmm;rw[Sem.run_bind,h1,Result.andThen_ok,h2];rcases h3 with⟨f,ys,rfl,rfl,hcall⟩|⟨l,f,tmps,assign,body,rfl,rfl,hround⟩|⟨y,rfl,G',Os',hr,hs,hgd⟩
   ·refine⟨hdep,xay (hcall.mono ?_)⟩
    rintro e w' ⟨y,G',Os',rfl,hr,hs,hgd⟩;exact hnext y w' G' Os' hr.toT hs hgd
   ·refine⟨hdep,xaw (hround.mono ?_)⟩
    rintro e w' ⟨y,G',Os',rfl,hr,hs,hgd⟩;exact hnext y w' G' Os' hr.toT hs hgd
   ·exact hnext y w1 G' Os' hr.toT hs hgd
  unfold opP at h;simp only at h;split at h
  ·rename_i f hcf
   obtain⟨v,m1,h,hr⟩:=hC slot f _ _ m x m' h;obtain⟨rfl,rfl⟩:=h.ret;rcases hr G Os w (c.args.map a.eval) (yl6 he c.args) hg with⟨h1,h2⟩|⟨_,y,w1,h1,h2⟩
   ·refine fin _ _ Go.undef #[] rfl rfl (by rw[hcf]) trivial {target:= .fn (.func f) #[],args:= #[]++c.args.map a.eval} (.enter f (c.args.map a.eval)) w ?_ ?_ (.inl ⟨f,_,rfl,rfl,h2⟩)
    ·unfold resolve;rw[hcf];rfl
    ·simp only[invoke]
     rw[Array.empty_append,Array.append_empty];exact h1
   ·refine fin _ _ Go.undef #[] rfl rfl (by rw[hcf]) trivial {target:= .fn (.func f) #[],args:= #[]++c.args.map a.eval} (.value y) w1 ?_ ?_ (.inr (.inr ⟨y,rfl,h2⟩))
    ·unfold resolve;rw[hcf];rfl
    ·simp only[invoke]
     rw[Array.empty_append,Array.append_empty];exact h1
  ·rename_i fo hno hcf
   obtain⟨v,m1,h,hr⟩:=xgc hT hC hY h;obtain⟨rfl,rfl⟩:=h.ret;obtain⟨d,nx,w1,h1,h2,h3⟩:=hr G Os w (a.eval fo) (c.args.map a.eval) (he fo) (yl6 he c.args) hg;refine fin _ _ Go.undef #[] rfl rfl (by rw[hcf]) trivial d nx w1 ?_ h2 h3;unfold resolve;rw[hcf];exact h1
  ·rename_i b hcf
   exact absurd ⟨b,hcf⟩ hcb
  ·exact h.fail.elim
structure DefOk (b0:Nat) (ds:List Deferred) (G:Gh) (Os:List OG) (ro:Option Nat) (w:World):Prop where
 mark:∀d∈ds,∃D,d.target= .collected D∧b0≤D∧w.heap[D]? =some (.deferred (some []))∧¬G.owns D∧¬frn Os D∧ro≠some D∧G.M D=none
 apart:ds.Pairwise fun d e=>∀D,d.target= .collected D→e.target≠ .collected D
structure RoOk (ro:Option Nat) (r:Loop) (G:Gh) (Os:List OG) (w:World):Prop where
 ex:∀l,ro=some l→w.heap[l]? =some (.loop r)∧¬G.owns l∧¬frn Os l∧G.M l=none
structure JS (T:Tab) (ro:Option Nat) (G0:Gh) (Os0:List OG) (w0:World) (nt:Nat) (r:Loop) (ρ:Ev) (m:Mem) (G:Gh) (Os:List OG) (a:Act) (w:World):Prop where
 stp:Stp (fun b=>ro=some b) G0 Os0 w0 G Os w
 env:EnvR G Os ρ a.tmps
 nt:a.tmps.size=nt
 good:Good T G Os w m
 defs:DefOk w0.heap.size a.defers G Os ro w
 rou:RoOk ro r G Os w
def JR(T:Tab)(ro:Option Nat)(G0:Gh)(Os0:List OG)(w0:World)(nt:Nat)(r:Loop)(ds:List Deferred)(ρ:Ev)(m:Mem)(a:Act)(w:World):Prop:=
 a.defers=ds∧∃G Os,JS T ro G0 Os0 w0 nt r ρ m G Os a w
theorem JS.step{ro:Option Nat}{G0:Gh}{Os0:List OG}{w0:World}{nt:Nat}{r:Loop}{ρ:Ev}{G G':Gh}{Os Os':List OG}{a:Act}{w w':World}(h:JS T ro G0 Os0 w0 nt r ρ m G Os a w)
  (hs:Stp (fun _=>False) G Os w G' Os' w')(hg:Good T G' Os' w' m'):JS T ro G0 Os0 w0 nt r ρ m' G' Os' a w' where
 stp:=h.stp.trans (hs.weaken fun b hb=>hb.elim)
 env:=(h.env.mono hs.le).sig hs.sig
 nt:=h.nt
 good:=hg
 defs:=by
  refine⟨fun d hd=> ?_,h.defs.apart⟩;obtain⟨D,h1,h2,h3,h4,h5,h6,h7⟩:=h.defs.mark d hd;have hlt:D<w.heap.size:=(Array.getElem?_eq_some_iff.1 h3).1;refine⟨D,h1,h2,(hs.keep D hlt h4 h5 id).trans h3,fun ho=> ?_,fun hf=> ?_,h6,(za4 hs h4 h5 hlt).trans h7⟩
  ·rcases hs.owns D ho with h|h
   ·exact h4 h
   ·omega
  ·rcases hs.frn D hf with h|h
   ·exact h5 h
   ·omega
 rou:=by
  refine⟨fun l hl=> ?_⟩;obtain⟨h1,h2,h3,h4⟩:=h.rou.ex l hl;have hlt:l<w.heap.size:=(Array.getElem?_eq_some_iff.1 h1).1;refine⟨(hs.keep l hlt h2 h3 id).trans h1,fun ho=> ?_,fun hf=> ?_,(za4 hs h2 h3 hlt).trans h4⟩
  ·rcases hs.owns l ho with h|h
   ·exact h2 h
   ·omega
  ·rcases hs.frn l hf with h|h
   ·exact h3 h
   ·omega
theorem JS.put{ro:Option Nat}{G0:Gh}{Os0:List OG}{w0:World}{nt:Nat}{r:Loop}{ρ:Ev}{G:Gh}{Os:List OG}{a:Act}{w:World}(h:JS T ro G0 Os0 w0 nt r ρ m G Os a w){d:Option Nat}(hd:∀t,d=some t→t<nt)
  {v:V}{y:Value}(hv:RelT G Os v y):JS T ro G0 Os0 w0 nt r (qc ρ d v) m G Os (a.put d y) w:=by
 cases d with
 |none=>exact h
 |some t=>
  refine⟨h.stp,fun u v' hu=> ?_,by simp[Act.put,h.nt],h.good,h.defs,h.rou⟩;have ht:t<a.tmps.size:=by rw[h.nt];exact hd t rfl
  simp only[qc]at hu;by_cases htu:t=u
  ·subst htu
   simp only[if_true,Option.some.injEq]at hu;subst hu;simp[Act.put,Array.getD_eq_getD_getElem?,ht];exact hv
  ·rw[if_neg htu]at hu
   have:=h.env u v' hu;simpa[Act.put,Array.getD_eq_getD_getElem?,Array.getElem?_setIfInBounds_ne htu]using this
theorem zh6{G:Gh}{Os:List OG}{ρ:Ev}{a:Act}(h:EnvR G Os ρ a.tmps):OpEnv G Os (kz ρ) a.eval:=by
 intro o;cases o with
 |tmp t=>
  simp only[kz,Act.eval];cases ht:ρ t with
  |none=>exact .undef _
  |some v=>exact h t v ht
 |const v=>exact(zf7 G v).toT
 |global g=>exact .glob g 0
 |func f=>exact .fn f [] #[] rfl fun i v x hv=>by simp at hv
theorem ykv(a:Act)(d:Option Nat)(y:Value):(a.put d y).defers=a.defers:=by cases d<;>rfl
theorem yk4(hT:TabOk P T)(hC:za7 P T ih)(hY:zd8 P T ih){ops:Array Oper}{sl:Nat→Option Nat}{ro:Option Nat}{G0:Gh}{Os0:List OG}{w0:World}{nt:Nat}{r:Loop}{ds:List Deferred}{Q:Exit→Act→World→Prop}
  (hd:∀(i:Nat) (o:Oper),ops[i]? =some o→∀t,o.dst=some t→t<nt):zo0 ih T raw ops sl (kn ro) 0 P Q (JR T ro G0 Os0 w0 nt r ds):=by
 intro i ρ m ρ1 m1 f a w K hst hJ hK;obtain⟨o,v,ho,hrun,rfl⟩:=zkm hst;obtain⟨hds,G,Os,hJ⟩:=hJ;have hdo:=hd i o ho
 have he:=zh6 hJ.env
  -- it is carried out
 have go:Res (sl i) (opP ih T raw (kz ρ) o) m v m1→Region.wanted o (yielded ops a.tmps)=true→wpOpIn (kn ro) 0 P ops Q i K a w:=by
  intro hres hw;unfold wpOpIn;rw[ho];simp only[hw,if_true];refine⟨fun f _=>zni ro f,?_⟩
  have hnd:∀c,o.op≠ .defer c:=by
   intro c hcd;unfold opP at hres;rw[hcd]at hres;exact hres.fail
  have hsem:o.semAt (kn ro).round a.eval=execOp a.eval o:=by
   cases hro:(kn ro).round with
   |none=>rfl
   |some l=>
    unfold Oper.semAt;split
    ·rename_i c _ hcd;exact absurd hcd (hnd _)
    ·rfl
  rw[hsem];refine yuo hT hC hY hres he hJ.good fun y w' G' Os' hy hs hg=>hK _ _ ⟨by rw[ykv,hds],G',Os',?_⟩;exact(hJ.step hs hg).put hdo hy
  -- it is passed over
 have skip:v= .tup []→m1=m→Region.wanted o (yielded ops a.tmps)=false→wpOpIn (kn ro) 0 P ops Q i K a w:=by
  rintro rfl rfl hw;unfold wpOpIn;rw[ho];simp only[hw,Bool.false_eq_true,if_false];refine⟨fun f _=>zni ro f,hK _ _ ⟨by rw[ykv,hds],G,Os,?_⟩⟩;exact hJ.put hdo (Rel.toT (LRel.toTup (a:= #[]) (LRel.nil G)))
 unfold w9 at hrun;split at hrun
 ·rename_i hgd
  exact go ⟨f,hrun⟩ (by simp[Region.wanted,hgd])
 ·rename_i g want hgd
    -- what the guard has yielded
  have yv:∀b,j7 ops (kz ρ) g= .bool b→yielded ops a.tmps g=some b:=by
   intro b hb;unfold j7 at hb;cases hog:ops[g]? with
   |none=>rw[hog]at hb;cases hb
   |some og=>
    rw[hog]at hb;cases hdg:og.dst with
    |none=>simp only[hdg]at hb;cases hb
    |some t=>
     simp only[hdg]at hb;have hr:=he (.tmp t);rw[hb]at hr;have hr:Rel G (.bool b) (a.eval (.tmp t)):=hr;have e1:a.eval (.tmp t)= .bool b:=by cases hq:a.eval (.tmp t)<;>rw[hq]at hr<;>cases hr;rfl
     simp only[Act.eval]at e1;unfold yielded;simp only[hog,Option.bind_some,hdg];rw[Array.getD_eq_getD_getElem?]at e1;cases hq:a.tmps[t]? with
     |none=>rw[hq]at e1;cases e1
     |some y=>rw[hq]at e1;simp only[Option.getD_some]at e1;rw[e1]
  have yt:∀vs,j7 ops (kz ρ) g= .tup vs→yielded ops a.tmps g=none:=by
   intro vs hb;unfold j7 at hb;cases hog:ops[g]? with
   |none=>rw[hog]at hb;cases hb
   |some og=>
    rw[hog]at hb;cases hdg:og.dst with
    |none=>simp only[hdg]at hb;cases hb
    |some t=>
     simp only[hdg]at hb;have hr:=he (.tmp t);rw[hb]at hr;obtain⟨arr,e1,_⟩:=(show Rel G (.tup vs) (a.eval (.tmp t))from hr).tup';simp only[Act.eval]at e1;unfold yielded;simp only[hog,Option.bind_some,hdg];rw[Array.getD_eq_getD_getElem?]at e1;cases hq:a.tmps[t]? with
     |none=>rfl
     |some y=>rw[hq]at e1;simp only[Option.getD_some]at e1;rw[e1]
  split at hrun
  ·rename_i b hb
   split at hrun
   ·rename_i hw
    exact go ⟨f,hrun⟩ (by simp only[Region.wanted,hgd,yv b hb];simp at hw;simp[hw])
   ·rename_i hw
    obtain⟨h1,h2⟩:=Res.ret (slot:=sl i) (m:=m) (x:=v) (m':=m1) (v:= .tup []) ⟨f,hrun⟩;exact skip h1 h2 (by simp only[Region.wanted,hgd,yv b hb];simp at hw;simp[hw])
  ·rename_i vs hb
   obtain⟨h1,h2⟩:=Res.ret (slot:=sl i) (m:=m) (x:=v) (m':=m1) (v:= .tup []) ⟨f,hrun⟩;exact skip h1 h2 (by simp[Region.wanted,hgd,yt vs hb])
  ·exact(Res.fail (slot:=sl i) (m:=m) (x:=v) (m':=m1) ⟨f,hrun⟩).elim
end
section
variable {P:Program} {T:Tab} {m m':Mem} {x:V} {ih:Ih} {raw:Bool}
theorem MRel.still{M M':Nat→Option FC}{R R':Nat→RS}{w w':World}(h:MRel ⟨M,R⟩ T w)(hM:∀b,M' b=M b)(hk:∀b c,M b=some c→w'.heap[b]? =w.heap[b]?):MRel ⟨M',R'⟩ T w':=by
 refine⟨fun b c hc=> ?_,fun g cs hcs=> ?_⟩
 ·have hc':M b=some c:=(hM b).symm.trans hc
  obtain⟨o,he,hob⟩:=h.mem b c hc';exact⟨o,(hk b c hc').trans he,hob⟩
 ·obtain⟨c,h1,h2,h3,h4⟩:=h.glob g cs hcs
  exact⟨c,(hM g).trans h1,⟨h2.1,fun i v x hv hx=>(h2.2 i v x hv hx).pure (fun b c hc=>(hM b).trans hc) (pureL_iff.1 h3 v (List.mem_of_getElem? hv))⟩,h3,h4⟩
theorem JS.heap{ro:Option Nat}{G0:Gh}{Os0:List OG}{w0:World}{nt:Nat}{r:Loop}{ρ:Ev}{G:Gh}{Os:List OG}{a:Act}{w w':World}(h:JS T ro G0 Os0 w0 nt r ρ m G Os a w)
  (hw:w'.heap=w.heap){H':zj}(hH:HeapRel G T w H' m.Fz)(hO:Oo w w':=by exact⟨rfl,rfl⟩):JS T ro G0 Os0 w0 nt r ρ ⟨H',m.Fz,m.S⟩ G Os a w':=by
 have hs:Step G w G w':=⟨.refl G,by rw[hw];exact Nat.le_refl _,fun b hb=> .inl hb,fun b c hc=> .inl hc,fun b _ _=>by rw[hw],hO⟩;refine h.step (hs.stp Os) (h.good.local hs ?_ ?_ rfl)
 ·exact HeapRel.still (M:=G.M) (R:=G.R) hH (fun _ _ h=>h) fun id g _=>⟨by rw[hw],rfl⟩
 ·exact MRel.still (M:=G.M) (R:=G.R) h.good.mem (fun _=>rfl) fun b c _=>by rw[hw]
theorem yy4{G:Gh}{w:World}{H:zj}{Fz:Nat}(h:HeapRel G T w H Fz)(n:Nat):HeapRel G T w (H++List.replicate n .free) Fz:=by
 refine⟨fun id r hr=> ?_,fun id hid=> ?_,fun id hz=> ?_,h.inj⟩
 ·by_cases hlt:id<H.length
  ·rw[List.getElem?_append_left hlt]at hr;exact h.rows id r hr
  ·rw[List.getElem?_append_right (by omega),List.getElem?_replicate]at hr
   split at hr
   ·simp only[Option.some.injEq]at hr
    subst hr;refine⟨h.out id (List.getElem?_eq_none (by omega)),?_⟩;cases hz:Fz.testBit id with
    |false=>rfl
    |true=>exact absurd (h.fz id hz) hlt
   ·cases hr
 ·refine h.out id ?_
  rw[List.getElem?_eq_none_iff]at hid⊢;simp at hid;omega
 ·have:=h.fz id hz;simp;omega
theorem ytk{fps:List FP}:∀{ps:List (Nat×Nat)},zb1 fps ps=true→∀j i,(j,i)∈ps→∃f g,fps[j]? =some f∧fps[i]? =some g∧f.apart g=true:=by
 intro ps
 induction ps with
 |nil=>intro _ j i h;cases h
 |cons p ps ih=>
  obtain⟨a,b⟩:=p;intro h j i hm;simp only[zb1,Bool.and_eq_true]at h;rcases List.mem_cons.1 hm with he|hm
  ·cases he
   have h1:=h.1;split at h1
   ·rename_i f g hf hg;exact⟨f,g,hf,hg,h1⟩
   ·cases h1
  ·exact ih h.2 j i hm
theorem yvi(F:List FP):(List.range F.length).map (fun i=>F.getD i .none)=F:=by
 apply List.ext_getElem?;intro i;rw[List.getElem?_map];by_cases h:i<F.length
 ·rw[List.getElem?_range h,List.getElem?_eq_getElem h]
  simp[List.getD_eq_getElem?_getD,h]
 ·rw[List.getElem?_eq_none (by simpa using h),List.getElem?_eq_none (by omega)];rfl
theorem yry{ops:Array Oper}{sl:Nat→Option Nat}:∀{l:List Nat} {ρ ρ':Ev} {m m':Mem} {F:List FP},runI ih T raw ops sl l ρ m=some (ρ',m',F)→F.length=l.length:=by
 intro l
 induction l with
 |nil=>intro ρ ρ' m m' F h;simp only[runI,Option.some.injEq,Prod.mk.injEq]at h;obtain⟨_,_,rfl⟩:=h;rfl
 |cons i l ihl=>
  intro ρ ρ' m m' F h;obtain⟨ρ1,m1,f,F',h1,h2,rfl⟩:=zgm h;simp[ihl h2]
theorem ysp{α:Type}(hT:TabOk P T)(hF:FnsOk P T)(hC:za7 P T ih)(hY:zd8 P T ih){ops:Array Oper}{draw:Bool}{id:Nat}{st:St}{k:St→Option α}{res:α}
  (h:regionK ih T ops (match draw with|true=>some (T.pairs st.fn id)|false=>none) st k=some res)(hok:codeOk T st.fn (.region id ops draw)=true):
  ∃st',k st'=some res∧st'.fn=st.fn∧st'.nt=st.nt∧st'.fp=st.fp∧
   ∀(ro:Option Nat) (G0:Gh) (Os0:List OG) (w0:World) (r:Loop) (G:Gh) (Os:List OG) (a:Act) (w:World),JS T ro G0 Os0 w0 st.nt r st.ρ st.mem G Os a w→
    (Code.region id ops draw).wpIn (kn ro) 0 P (fun e a' w'=>e= .normal∧JR T ro G0 Os0 w0 st.nt r a.defers st'.ρ st'.mem a' w') a w:=by
 have hdst:∀(P':Oper→Prop),(∀o∈ops.toList,P' o)→∀(i:Nat) (o:Oper),ops[i]? =some o→P' o:=fun P' h i o ho=>h o (List.mem_of_getElem? (by simpa using ho));cases draw with
 |false=>
  simp only[regionK]at h;obtain⟨ρ',F,st',h1,h2,h3,h4,h5,h6,h7⟩:=yk6 _ _ _ _ _ _ h (fun i=>by simp);refine⟨st',h2,h4,h5,h6,fun ro G0 Os0 w0 r G Os a w hJ=>wpIn_region ?_⟩;have hk:=yk4 (P:=P) (raw:=T.raw st.fn) (sl:=fun _=>none) (Q:=fun e a' w'=>e= .normal∧JR T ro G0 Os0 w0 st.nt r a.defers st'.ρ st'.mem a' w') hT hC hY (ro:=ro) (G0:=G0) (Os0:=Os0) (w0:=w0) (r:=r) (ds:=a.defers) (hdst _ h7);rw[←h3,Array.length_toList,←List.range_eq_range']at h1;exact ysn hk _ _ _ _ _ _ _ _ h1 ⟨rfl,G,Os,hJ⟩ fun a' w' hJ'=>⟨rfl,hJ'⟩
 |true=>
  simp only[regionK]at h;obtain⟨ρ',F,st',h1,h2,h3,h4,h5,h6,h7⟩:=yk6 _ _ _ _ _ _ h (fun i=>by simp);have e1:(st.withH (st.H++List.replicate ops.size .free)).ρ=st.ρ:=by obtain⟨fn,nt,fp,env,H,Fz,S⟩:=st;rfl
  have e2:(st.withH (st.H++List.replicate ops.size .free)).mem=⟨st.H++List.replicate ops.size .free,st.Fz,st.S⟩:=by obtain⟨fn,nt,fp,env,H,Fz,S⟩:=st;rfl
  have e3:(st.withH (st.H++List.replicate ops.size .free)).fn=st.fn:=by obtain⟨fn,nt,fp,env,H,Fz,S⟩:=st;rfl
  have e4:(st.withH (st.H++List.replicate ops.size .free)).nt=st.nt:=by obtain⟨fn,nt,fp,env,H,Fz,S⟩:=st;rfl
  have e5:(st.withH (st.H++List.replicate ops.size .free)).fp=st.fp:=by obtain⟨fn,nt,fp,env,H,Fz,S⟩:=st;rfl
  rw[e3]at h4 h1;rw[e4]at h5 h7;rw[e5]at h6;rw[e1,e2,←h3,Array.length_toList,←List.range_eq_range']at h1;obtain⟨hp,h2⟩:=xf h2;simp only[List.append_nil,List.reverse_reverse]at hp;refine⟨st',h2,h4,h5,h6,fun ro G0 Os0 w0 r G Os a w hJ=>wpIn_region_any hF.mixed ?_⟩;have hk:=yk4 (P:=P) (raw:=T.raw st.fn) (sl:=fun j=>some (st.H.length+j)) (Q:=fun e a' w'=>e= .normal∧JR T ro G0 Os0 w0 st.nt r a.defers st'.ρ st'.mem a' w') hT hC hY (ro:=ro) (G0:=G0) (Os0:=Os0) (w0:=w0) (r:=r) (ds:=a.defers) (hdst _ h7);have hlen:=yry h1;simp only[List.length_range]at hlen
  have hrem:rem ops (Array.replicate ops.size false)=List.range ops.size:=by
   unfold rem;rw[List.filter_eq_self];intro i hi;simp only[List.mem_range]at hi;simp[Array.getD_eq_getD_getElem?,hi]
  refine yso hk (fun i=>⟨_,rfl⟩) (ysq hok) (φ:=fun i=>F.getD i .none) (ρ':=st'.ρ) (m':=st'.mem) (fun j i hji=> ?_) (fun a' w' hJ'=>⟨rfl,hJ'⟩) ops.size (Array.replicate ops.size false) st.ρ ⟨st.H++List.replicate ops.size .free,st.Fz,st.S⟩ a _ (by simp) (fun k o ho hl=> ?_) (by rw[hrem];simp) ?_ ⟨rfl,G,Os,?_⟩
  ·obtain⟨f,g,hf,hg,ha⟩:=ytk hp j i hji
   simp only[List.getD_eq_getElem?_getD,hf,hg,Option.getD_some];exact ha
  ·have hlt:=(Array.getElem?_eq_some_iff.1 ho).1
   simp[Array.getD_eq_getD_getElem?,hlt]at hl
  ·rw[hrem]
   have:=yvi F;rw[hlen]at this;rw[this];exact h1
  ·exact hJ.heap (m:=st.mem) (w':={w with drawn:=w.drawn+1}) rfl (yy4 hJ.good.heap _)
end
theorem vl(g:Nat→Nat):∀(l:List V),x9 g l=l.map (xz g)
 | []=>rfl
 |v::r=>by simp[x9,vl g r]
theorem zat{l:List V}{v:V}(hv:v∈l){id:Nat}(h:id∈idsV v):id∈zi l:=by
 induction l with
 |nil=>cases hv
 |cons u l ih=>
  simp only[zi,List.mem_append];rcases List.mem_cons.1 hv with rfl|hv
  ·exact .inl h
  ·exact .inr (ih hv)
theorem zdl(g:Nat→Nat):∀(l:zj),xh g l=l.map (qg g)
 | []=>rfl
 |v::r=>by simp[xh,zdl g r]
theorem Rel.ren{G G2:Gh}{g:Nat→Nat}(hM:∀b c,G.M b=some c→G2.M b=some c){v:V}{x:Value}(h:Rel G v x):(∀id∈idsV v,G2.R (g id)=G.R id)→Rel G2 (xz g v) x:=by
 induction h with
 |undef x=>intro _;exact .undef x
 |bool b=>intro _;exact .bool b
 |int k n=>intro _;exact .int k n
 |flt k b=>intro _;exact .flt k b
 |nan k b h=>intro _;exact .nan k b h
 |cpl k a b=>intro _;exact .cpl k a b
 |str s l h=>intro _;exact .str s l h
 |nilp=>intro _;exact .nilp
 |nilm=>intro _;exact .nilm
 |nilf=>intro _;exact .nilf
 |nili=>intro _;exact .nili
 |nils sz=>intro _;exact .nils sz
 |sle sz a cap=>intro _;exact .sle sz a cap
 |sl sz l b o cap f hcap hp hE hr hv ih=>intro _;exact Rel.pure hM (.sl sz l b o cap f hcap hp hE hr hv) rfl
 |pp sz l i j b o f hp hE hr hv ih=>intro _;exact Rel.pure hM (.pp sz l i j b o f hp hE hr hv) rfl
 |ref id a n cap hf h=>
  intro hid;have e:=hid id (by simp[idsV]);exact .ref _ a n cap (by rw[e];exact hf) fun g' hg'=>h g' (e▸hg')
 |sub id off n a cap hf hc h=>
  intro hid;have e:=hid id (by simp[idsV]);exact .sub _ off n a cap (by rw[e];exact hf) hc fun g' hg'=>h g' (e▸hg')
 |ptr id i j b o hf h=>
  intro hid;have e:=hid id (by simp[idsV]);exact .ptr _ i j b o (by rw[e];exact hf) fun g' hg'=>h g' (e▸hg')
 |map id r hf h=>
  intro hid;have e:=hid id (by simp[idsV]);exact .map _ r (by rw[e];exact hf) fun g' hg'=>h g' (e▸hg')
 |it id a hf h=>
  intro hid;have e:=hid id (by simp[idsV]);exact .it _ a (by rw[e];exact hf) fun g' hg'=>h g' (e▸hg')
 |glob gl j=>intro _;exact .glob gl j
 |fn f cap a hs h ih=>
  intro hid;simp only[xz,vl];refine .fn f _ a (by simp[hs]) fun i v x hv hx=> ?_;rw[List.getElem?_map]at hv;cases hc:cap[i]? with
  |none=>rw[hc]at hv;cases hv
  |some u=>
   rw[hc]at hv;simp only[Option.map_some,Option.some.injEq]at hv;subst hv;exact ih i u x hc hx fun id hi=>hid id (by simp only[idsV];exact zat (List.mem_of_getElem? hc) hi)
 |mth f n cap a hs h ih=>
  intro hid;simp only[xz,vl,List.map_cons];refine .mth f n _ a (by simp[hs]) fun i v x hv hx=> ?_;rw[List.getElem?_map]at hv;cases hc:cap[i]? with
  |none=>rw[hc]at hv;cases hv
  |some u=>
   rw[hc]at hv;simp only[Option.map_some,Option.some.injEq]at hv;subst hv;exact ih i u x hc hx fun id hi=>hid id (by simp only[idsV,zi,List.nil_append];exact zat (List.mem_of_getElem? hc) hi)
 |iface t v x h ih=>intro hid;exact .iface t _ x (ih fun id hi=>hid id (by simpa[idsV]using hi))
 |agg cs a hs h ih=>
  intro hid;simp only[xz,vl];refine .agg _ a (by simp[hs]) fun i v x hv hx=> ?_;rw[List.getElem?_map]at hv;cases hc:cs[i]? with
  |none=>rw[hc]at hv;cases hv
  |some u=>
   rw[hc]at hv;simp only[Option.map_some,Option.some.injEq]at hv;subst hv;exact ih i u x hc hx fun id hi=>hid id (by simp only[idsV];exact zat (List.mem_of_getElem? hc) hi)
 |tup cs a hs h ih=>
  intro hid;simp only[xz,vl];refine .tup _ a (by simp[hs]) fun i v x hv hx=> ?_;rw[List.getElem?_map]at hv;cases hc:cs[i]? with
  |none=>rw[hc]at hv;cases hv
  |some u=>
   rw[hc]at hv;simp only[Option.map_some,Option.some.injEq]at hv;subst hv;exact ih i u x hc hx fun id hi=>hid id (by simp only[idsV];exact zat (List.mem_of_getElem? hc) hi)
theorem RelT.ren{G G2:Gh}{Os:List OG}{g:Nat→Nat}(hM:∀b c,G.M b=some c→G2.M b=some c){v:V}{x:Value}(h:RelT G Os v x)(hid:∀id∈idsV v,G2.R (g id)=G.R id):RelT G2 Os (xz g v) x:=by
 cases hy:zm v with
 |false=>exact((h.rel hy).ren hM hid).toT
 |true=>cases v<;>simp[zm]at hy;exact h
theorem yyo(g:Nat→Nat)(v:V):isCell (xz g v)=isCell v:=by cases v<;>rfl
theorem yym(g:Nat→Nat)(n:Nat)(v:V):zg n (xz g v)=zg n v:=by
 cases v with
 |agg cs=>
  have h:((x9 g cs).all isCell)=cs.all isCell:=by
   rw[vl,List.all_map];congr 1;funext u;exact yyo g u
  simp only[xz,zg,h];rw[vl,List.length_map]
 |_=>rfl
theorem xf6(g:Nat→Nat)(v:V):cellsOf (xz g v)=(cellsOf v).map (xz g):=by
 cases v with
 |agg cs=>simp[xz,cellsOf,vl]
 |_=>rfl
theorem xaj(g:Nat→Nat)(l:List V):flat (l.map (xz g))=(flat l).map (xz g):=by
 induction l with
 |nil=>rfl
 |cons v l ih=>rw[List.map_cons,vn,vn,xf6,ih,List.map_append]
theorem yy0{v u:V}(hu:u∈cellsOf v){id:Nat}(h:id∈idsV u):id∈idsV v:=by
 cases v with
 |agg cs=>simp only[idsV];exact zat hu h
 |_=>simp only[cellsOf,List.mem_singleton]at hu;subst hu;exact h
def wx:Row→List Nat
 | .cells _ false _ l=>zi l
 |_=> []
theorem RowRel.ren{T:Tab}{G G2:Gh}{g:Nat→Nat}{w:World}{Fz Fz2 id j:Nat}{r:Row}(h:RowRel G T w Fz id r)(hM:∀b c,G.M b=some c→G2.M b=some c)(hM2:∀gg,G.R id= .live gg→G2.M gg.blk=G.M gg.blk)(hR:G2.R j=G.R id)(hF:Fz2.testBit j=Fz.testBit id)
  (hids:∀i∈wx r,G2.R (g i)=G.R i):RowRel G2 T w Fz2 j (qg g r):=by
 cases r with
 |free=>obtain⟨h1,h2⟩:=h;exact⟨hR.trans h1,hF.trans h2⟩
 |dead=>intro gg hg;exact h gg (hR▸hg)
 |cells b fl ty l=>
  obtain⟨gg,hg,h1,h2,h3,h4,h5,c,e,hc,hs,hcs,hz1,hz2⟩:=h;have hMg:=hM2 gg hg;cases fl with
  |true=>
   refine⟨gg,hR.trans hg,h1,h2,h3,h4,h5,c,e,hc,hs,fun k u hu=> ?_,fun hz=> ?_,fun hz=> ?_⟩
   ·obtain⟨x,hx,hr⟩:=hcs k u hu
    exact⟨x,hx,hr.pure hM (zmb (h5 rfl) u (List.mem_of_getElem? hu))⟩
   ·obtain⟨z1,z2⟩:=hz1 (hF▸hz);exact⟨z1,hMg.trans z2⟩
   ·exact hMg.trans (hz2 (hF▸hz))
  |false=>
   simp only[qg,vl];refine⟨gg,hR.trans hg,by simpa using h1,h2,h3,fun v hv=> ?_,fun hf=>(by cases hf),c,e,hc,hs,fun k u hu=> ?_,fun hz=> ?_,fun hz=> ?_⟩
   ·obtain⟨v',hv',rfl⟩:=List.mem_map.1 hv
    rw[yym];exact h4 v' hv'
   ·rw[xaj,List.getElem?_map]at hu
    cases hq:(flat l)[k]? with
    |none=>rw[hq]at hu;cases hu
    |some u'=>
     rw[hq]at hu;simp only[Option.map_some,Option.some.injEq]at hu;subst hu;obtain⟨x,hx,hr⟩:=hcs k u' hq;refine⟨x,hx,hr.ren hM fun i hi=>hids i ?_⟩;obtain⟨v',hv',hu'⟩:=List.mem_flatMap.1 (List.mem_of_getElem? hq);simp only[wx];exact zat hv' (yy0 hu' hi)
   ·obtain⟨z1,z2⟩:=hz1 (hF▸hz);exact⟨z1,hMg.trans z2⟩
   ·exact hMg.trans (hz2 (hF▸hz))
 |map es=>
  obtain⟨gg,hg,h1,h2,ents,clock,hc,hs,hes⟩:=h;refine⟨gg,hR.trans hg,(hM2 gg hg).trans h1,hF.trans h2,ents,clock,hc,hs,fun i p e hp he=> ?_⟩;obtain⟨e1,e2,e3,e4⟩:=hes i p e hp he;exact⟨e1.pure hM e3,e2.pure hM e4,e3,e4⟩
 |siter s p=>
  obtain⟨gg,hg,h1,h2,bs,hc,hs⟩:=h;exact⟨gg,hR.trans hg,(hM2 gg hg).trans h1,hF.trans h2,bs,hc,hs⟩
 |miter v n q=>
  obtain⟨gg,hg,h1,h2,mb,ents,clock,seen,hc,hm,hs,hb,hv,hp,hn⟩:=h;exact⟨gg,hR.trans hg,(hM2 gg hg).trans h1,hF.trans h2,mb,ents,clock,seen,hc,hM _ _ hm,hs,hb,fun e he=>(hv e he).pure hM hp,hp,hn⟩
theorem any_beq{l:List Nat}{x:Nat}:l.any (Nat.beq x)=true↔x∈l:=by
 rw[List.any_eq_true];constructor
 ·rintro⟨y,hy,he⟩;rw[Nat.eq_of_beq_eq_true he];exact hy
 ·intro h;exact⟨x,h,Nat.beq_refl x⟩
structure Closed (H:zj) (ids:List Nat):Prop where
 nodup:ids.Nodup
 row:∀id∈ids,∃r,H[id]? =some r∧∀i∈wx r,i∈ids
theorem zgp{H:zj}:∀(n:Nat) (work seen ids:List Nat),reach n work seen H=some ids→seen.Nodup→(∀id∈seen,∃r,H[id]? =some r∧∀i∈wx r,i∈seen∨i∈work)→
  Closed H ids∧(∀i∈work,i∈ids)∧(∀i∈seen,i∈ids):=by
 intro n
 induction n with
 |zero=>intro work seen ids h;simp[reach]at h
 |succ n ih=>
  intro work seen ids h hnd hcl;simp only[reach]at h;split at h
  ·simp only[Option.some.injEq]at h
   subst h;refine⟨⟨List.pairwise_reverse.2 (hnd.imp fun h=>h.symm),fun id hid=> ?_⟩,fun i hi=>(by cases hi),fun i hi=>by simpa using hi⟩;obtain⟨r,hr,hi⟩:=hcl id (by simpa using hid);exact⟨r,hr,fun i hir=>by have:=hi i hir;simpa using this⟩
  ·rename_i id wk
   split at h
   ·rename_i hseen
    have hmem:=any_beq.1 hseen
    obtain⟨h1,h2,h3⟩:=ih wk seen ids h hnd fun a ha=>by
     obtain⟨r,hr,hi⟩:=hcl a ha;refine⟨r,hr,fun i hir=> ?_⟩;rcases hi i hir with h|h
     ·exact .inl h
     ·rcases List.mem_cons.1 h with rfl|h
      ·exact .inl hmem
      ·exact .inr h
    exact⟨h1,fun i hi=>(List.mem_cons.1 hi).elim (fun e=>e▸h3 id hmem) (h2 i),h3⟩
   ·rename_i hseen
    have hnm:id∉seen:=fun hm=>by rw[any_beq.2 hm]at hseen;cases hseen
    have key:∀(r:Row) (extra:List Nat),H[id]? =some r→wx r⊆extra→reach n (extra++wk) (id::seen) H=some ids→Closed H ids∧(∀i∈id::wk,i∈ids)∧(∀i∈seen,i∈ids):=by
     intro r extra hr hsub h
     obtain⟨h1,h2,h3⟩:=ih (extra++wk) (id::seen) ids h (List.nodup_cons.2 ⟨hnm,hnd⟩) fun a ha=>by
      rcases List.mem_cons.1 ha with rfl|ha
      ·exact⟨r,hr,fun i hi=> .inr (List.mem_append_left _ (hsub hi))⟩
      ·obtain⟨r',hr',hi⟩:=hcl a ha
       refine⟨r',hr',fun i hir=> ?_⟩;rcases hi i hir with h|h
       ·exact .inl (List.mem_cons_of_mem _ h)
       ·rcases List.mem_cons.1 h with rfl|h
        ·exact .inl (List.mem_cons_self ..)
        ·exact .inr (List.mem_append_right _ h)
     exact⟨h1,fun i hi=>(List.mem_cons.1 hi).elim (fun e=>e▸h3 id (List.mem_cons_self ..)) fun hi=>h2 i (List.mem_append_right _ hi),fun i hi=>h3 i (List.mem_cons_of_mem _ hi)⟩
    split at h
    ·rename_i b ty l hr
     exact key _ (zi l) hr (fun i hi=>hi) h
    ·rename_i r hno hr
     refine key r [] hr (fun i hi=> ?_) h;cases r with
     |cells b fl ty l=>cases fl with
      |false=>exact(hno b ty l rfl).elim
      |true=>cases hi
     |_=>cases hi
    ·cases h
theorem zm3{ids:List Nat}{x:Nat}(h:x∈ids):ids[idx ids x]? =some x:=by
 induction ids with
 |nil=>cases h
 |cons y r ih=>
  unfold idx;cases hb:Nat.beq y x with
  |true=>simp[Nat.eq_of_beq_eq_true hb]
  |false=>
   have hne:=Nat.ne_of_beq_eq_false hb;simp only[List.getElem?_cons_succ];exact ih ((List.mem_cons.1 h).resolve_left (Ne.symm hne))
theorem yky{H:zj}:∀{ids:List Nat} (n:Nat),(pick H ids)[n]? =(ids[n]?).map fun id=>(match H[id]? with|some x=>x|none=> .dead):=by
 intro ids
 induction ids with
 |nil=>intro n;simp[pick]
 |cons id r ih=>intro n;cases n with|zero=>rfl|succ n=>simpa[pick]using ih n
theorem yvg{Fz:Nat}:∀(ids:List Nat) (n k:Nat),(mask ids Fz n).testBit k=true↔n≤k∧∃id,ids[k- n]? =some id∧Fz.testBit id=true:=by
 intro ids
 induction ids with
 |nil=>intro n k;simp[mask]
 |cons id r ih=>
  intro n k
  have hif:(cond (Fz.testBit id) (bit n) 0).testBit k=true↔n=k∧Fz.testBit id=true:=by
   cases Fz.testBit id<;>simp[vh]
  simp only[mask,Nat.testBit_or,Bool.or_eq_true,hif,ih (n+1) k];constructor
  ·rintro(⟨rfl,h⟩|⟨h1,id',h2,h3⟩)
   ·exact⟨Nat.le_refl _,id,by simp,h⟩
   ·refine⟨by omega,id',?_,h3⟩
    rw[show k- n=(k- (n+1))+1 by omega,List.getElem?_cons_succ];exact h2
  ·rintro⟨h1,id',h2,h3⟩
   by_cases hk:n=k
   ·subst hk
    simp at h2;subst h2;exact .inl ⟨rfl,h3⟩
   ·rw[show k- n=(k- (n+1))+1 by omega,List.getElem?_cons_succ]at h2
    exact .inr ⟨by omega,id',h2,h3⟩
def Gh.pickR(G:Gh)(ids:List Nat):Gh:=⟨G.M,fun n=>match ids[n]? with|some id=>G.R id|none=> .fresh⟩
theorem zg2{G:Gh}{ids:List Nat}{id:Nat}(h:id∈ids):(G.pickR ids).R (idx ids id)=G.R id:=by simp[Gh.pickR,zm3 h]
theorem zm5{T:Tab}{G:Gh}{w:World}{H:zj}{Fz:Nat}{ids:List Nat}(h:HeapRel G T w H Fz)(hc:Closed H ids):HeapRel (G.pickR ids) T w (xh (idx ids) (pick H ids)) (mask ids Fz 0):=by
 have hget:∀n:Nat,(xh (idx ids) (pick H ids))[n]? =(ids[n]?).map fun id=>qg (idx ids) (match H[id]? with|some x=>x|none=>Row.dead):=by
  intro n;rw[zdl,List.getElem?_map,yky,Option.map_map];rfl
 have hbit:∀n,(mask ids Fz 0).testBit n=true↔∃id,ids[n]? =some id∧Fz.testBit id=true:=by
  intro n;rw[yvg];simp
 have hbit':∀n id,ids[n]? =some id→(mask ids Fz 0).testBit n=Fz.testBit id:=by
  intro n id hid;cases hz:Fz.testBit id with
  |true=>exact(hbit n).2 ⟨id,hid,hz⟩
  |false=>
   cases hm:(mask ids Fz 0).testBit n with
   |false=>rfl
   |true=>
    obtain⟨id',h1,h2⟩:=(hbit n).1 hm;rw[hid]at h1;cases h1;rw[hz]at h2;cases h2
 refine⟨fun n r hr=> ?_,fun n hn=> ?_,fun n hz=> ?_,fun n n' g g' hg hg' hb=> ?_⟩
 ·rw[hget]at hr
  cases hid:ids[n]? with
  |none=>rw[hid]at hr;cases hr
  |some id=>
   rw[hid]at hr;simp only[Option.map_some,Option.some.injEq]at hr;obtain⟨row,hrow,hi⟩:=hc.row id (List.mem_of_getElem? hid);rw[hrow]at hr;simp only at hr;subst hr;exact(h.rows id row hrow).ren (fun b c hc=>hc) (fun _ _=>rfl) (by simp[Gh.pickR,hid]) (hbit' n id hid) fun i hir=>zg2 (hi i hir)
 ·rw[hget]at hn
  cases hid:ids[n]? with
  |none=>simp[Gh.pickR,hid]
  |some id=>rw[hid]at hn;cases hn
 ·obtain⟨id,hid,_⟩:=(hbit n).1 hz
  have:=(List.getElem?_eq_some_iff.1 hid).1;rw[zdl,List.length_map]
  have hl:(pick H ids).length=ids.length:=by
   clear hid hz hget hbit hbit' hc this
   induction ids with
   |nil=>rfl
   |cons a r ih=>simp[pick,ih]
  omega
 ·simp only[Gh.pickR]at hg hg'
  cases hid:ids[n]? with
  |none=>rw[hid]at hg;cases hg
  |some id=>
   cases hid':ids[n']? with
   |none=>rw[hid']at hg';cases hg'
   |some id'=>
    rw[hid]at hg;rw[hid']at hg';have:=h.inj id id' g g' hg hg' hb;subst this;have h1:=(List.getElem?_eq_some_iff.1 hid);have h2:=(List.getElem?_eq_some_iff.1 hid');exact(List.getElem?_inj h1.1 hc.nodup).1 (hid.trans hid'.symm)
theorem zbf{G:Gh}{ids:List Nat}{b:Nat}(h:(G.pickR ids).owns b):G.owns b:=by
 obtain⟨n,g,hg,rfl⟩:=h;simp only[Gh.pickR]at hg;cases hid:ids[n]? with
 |none=>rw[hid]at hg;cases hg
 |some id=>rw[hid]at hg;exact⟨id,g,hg,rfl⟩
theorem znl:∀{a b:List Nat},jm a b=true→a=b
 | [],[],_=>rfl
 |x::a,y::b,h=>by
  simp only[jm,Bool.and_eq_true]at h;rw[Nat.eq_of_beq_eq_true h.1,znl h.2]
 | [],_::_,h=>by simp[jm]at h
 |_::_,[],h=>by simp[jm]at h
theorem yln{f:Nat→V}{g:V→V}{t:Nat}{v:V}:∀{ks:List Nat},lookup t (ks.zip ((ks.map f).map g))=some v→t∈ks∧v=g (f t):=by
 intro ks
 induction ks with
 |nil=>intro h;simp[lookup]at h
 |cons k ks ih=>
  intro h;simp only[List.map_cons,List.zip_cons_cons,lookup_cons]at h;by_cases hk:k=t
  ·subst hk
   simp only[if_true,Option.some.injEq]at h;exact⟨List.mem_cons_self ..,h.symm⟩
  ·rw[if_neg hk]at h
   obtain⟨h1,h2⟩:=ih h;exact⟨List.mem_cons_of_mem _ h1,h2⟩
theorem yr2{H:zj}{r:Row}{i:Nat}(h:r∈H)(hi:i∈wx r):i∈zam H:=by
 induction H with
 |nil=>cases h
 |cons a H ih=>
  rcases List.mem_cons.1 h with he|h2
  ·subst he
   cases r with
   |cells b fl ty l=>cases fl with
    |false=>exact List.mem_append_left _ hi
    |true=>cases hi
   |_=>cases hi
  ·clear h
   cases a with
   |cells b fl ty l=>cases fl with
    |false=>exact List.mem_append_right _ (ih h2)
    |true=>exact ih h2
   |_=>exact ih h2
theorem yl8{ks:List Nat}{fn nt fp:Nat}{env:Env}{H:zj}{Fz:Nat}{S:xb}{st':St}(h:gc ks ⟨fn,nt,fp,env,H,Fz,S⟩=some st'):
  ∃ids,st'=⟨fn,nt,fp,ks.zip (x9 (idx ids) (ks.map (xx env))),xh (idx ids) (pick H ids),mask ids Fz 0,S⟩∧Closed H ids∧ids.take fp=List.range fp∧∀i∈zi (ks.map (xx env)),i∈ids:=by
 simp only[gc]at h;cases hr:reach 10000 (List.range fp++zi (ks.map (xx env))) [] H with
 |none=>rw[hr]at h;cases h
 |some ids=>
  rw[hr]at h;simp only[Option.bind_some]at h;split at h
  ·rename_i heq
   simp only[Option.some.injEq]at h;obtain⟨hc,hroots,_⟩:=zgp _ _ _ _ hr List.nodup_nil (fun id hid=>by cases hid);exact⟨ids,h.symm,hc,znl heq,fun i hi=>hroots i (List.mem_append_right _ hi)⟩
  ·split at h
   ·rename_i hle
    have hle:=Nat.le_of_ble_eq_true hle;cases hr2:reach 10000 (zam (H.take fp)++zi (ks.map (xx env))) (List.range fp).reverse H with
    |none=>rw[hr2]at h;cases h
    |some ids2=>
     rw[hr2]at h;simp only[Option.bind_some]at h;split at h
     ·rename_i heq
      simp only[Option.some.injEq]at h
      obtain⟨hc,hroots,_⟩:=zgp _ _ _ _ hr2 (List.pairwise_reverse.2 (List.nodup_range.imp fun h=>h.symm)) (fun id hid=>by
       have hlt:id<fp:=by simpa using hid
       have hl:id<H.length:=by omega
       refine⟨H[id],List.getElem?_eq_getElem hl,fun i hi=> .inr (List.mem_append_left _ (yr2 (r:=H[id]) ?_ hi))⟩;exact List.mem_iff_getElem.2 ⟨id,by simp;omega,by simp⟩)
      exact⟨ids2,h.symm,hc,znl heq,fun i hi=>hroots i (List.mem_append_right _ hi)⟩
     ·cases h
   ·cases h
theorem yzw{T:Tab}{ks:List Nat}{st st':St}(h:gc ks st=some st'):st'.fn=st.fn∧st'.nt=st.nt∧st'.fp=st.fp∧
  ∀(ro:Option Nat) (G0:Gh) (Os0:List OG) (w0:World) (r:Loop) (G:Gh) (Os:List OG) (a:Act) (w:World),JS T ro G0 Os0 w0 st.nt r st.ρ st.mem G Os a w→(∀id,st.fp≤id→G0.R id= .fresh)→
   ∃G',JS T ro G0 Os0 w0 st.nt r st'.ρ st'.mem G' Os a w:=by
 obtain⟨fn,nt,fp,env,H,Fz,S⟩:=st;obtain⟨ids,rfl,hc,htk,hroots⟩:=yl8 h;refine⟨rfl,rfl,rfl,fun ro G0 Os0 w0 r G Os a w hJ hfp=>⟨G.pickR ids,?_⟩⟩;have hheap:=zm5 hJ.good.heap hc;have hmem:MRel (G.pickR ids) T w:=MRel.still (M:=G.M) (R:=G.R) hJ.good.mem (fun _=>rfl) fun _ _ _=>rfl;refine⟨⟨⟨hJ.stp.le.M,fun id hid=> ?_⟩,hJ.stp.size,hJ.stp.sig,fun b hb=>hJ.stp.owns b (zbf hb),hJ.stp.frn,hJ.stp.mem,hJ.stp.keep,hJ.stp.ow,hJ.stp.oo⟩,fun t v hv=> ?_,hJ.nt,⟨hheap,hmem,hJ.good.stk,fun b hb=>hJ.good.sep b (zbf hb)⟩,⟨fun d hd=> ?_,hJ.defs.apart⟩,⟨fun l hl=> ?_⟩⟩
 ·have hlt:id<fp:=by
   refine Classical.byContradiction fun hge=>hid (hfp id (by simp only;omega))
  have hget:ids[id]? =some id:=by
   have h1:(ids.take fp)[id]? =(List.range fp)[id]? :=by rw[htk]
   rw[List.getElem?_take,if_pos hlt,List.getElem?_range hlt]at h1;exact h1
  have:(G.pickR ids).R id=G.R id:=by simp[Gh.pickR,hget]
  rw[this];exact hJ.stp.le.R id hid
 ·simp only[St.ρ,vl]at hv
  obtain⟨h1,rfl⟩:=yln hv
  have hrel:RelT G Os (xx env t) (a.tmps.getD t Go.undef):=by
   unfold xx;cases hl:lookup t env with
   |none=>exact .undef _
   |some v=>exact hJ.env t v hl
  refine RelT.ren (G:=G) (G2:=G.pickR ids) (g:=idx ids) (fun b c hc=>hc) hrel fun id hid=>zg2 (hroots id ?_);exact zat (List.mem_map.2 ⟨t,h1,rfl⟩) hid
 ·obtain⟨D,e1,e2,e3,e4,e5,e6,e7⟩:=hJ.defs.mark d hd
  exact⟨D,e1,e2,e3,fun ho=>e4 (zbf ho),e5,e6,e7⟩
 ·obtain⟨e1,e2,e3,e4⟩:=hJ.rou.ex l hl
  exact⟨e1,fun ho=>e2 (zbf ho),e3,e4⟩
section
variable {P:Program} {T:Tab} {ih:Ih}
theorem yq(w:World)(o:Obj):(w.alloc o).heap.size=w.heap.size+1:=by show(w.heap.push o).size=_;simp
theorem zj3{w:World}{o:Obj}{b:Nat}(h:b<w.heap.size):(w.alloc o).heap[b]? =w.heap[b]? :=by show(w.heap.push o)[b]? =_;rw[Array.getElem?_push,if_neg (by omega)]
theorem zov(w:World)(o:Obj):(w.alloc o).heap[w.heap.size]? =some o:=by show(w.heap.push o)[w.heap.size]? =_;simp
theorem yqm{α:Type}(l:List α)(x:α):(l++ [x]).take l.length=l:=by simp
def ze5:RS→RS
 | .fresh=> .fresh
 |_=> .dead
theorem yx5{r:RS}(h:r≠ .fresh):ze5 r≠ .fresh:=by cases r<;>simp[ze5]at*
theorem yls{r:RS}{g:RG}:ze5 r≠ .live g:=by cases r<;>simp[ze5]
def Gh.only(G:Gh)(p:Nat→Bool):Gh:=⟨G.M,fun id=>match p id with|true=>G.R id|false=>ze5 (G.R id)⟩
theorem zmi(G:Gh)(p:Nat→Bool):G.le (G.only p):=by
 refine⟨fun b c h=>h,fun id hid=> ?_⟩;simp only[Gh.only];cases p id with
 |true=>exact⟨hid,fun g hg=>hg⟩
 |false=>exact⟨yx5 hid,fun g hg=>absurd hg yls⟩
theorem only_live{G:Gh}{p:Nat→Bool}{id:Nat}{g:RG}(h:(G.only p).R id= .live g):p id=true∧G.R id= .live g:=by
 simp only[Gh.only]at h;cases hp:p id with
 |true=>rw[hp]at h;exact⟨rfl,h⟩
 |false=>rw[hp]at h;exact absurd h yls
theorem RowRel.only{G:Gh}{w:World}{Fz id:Nat}{r:Row}{p:Nat→Bool}(h:RowRel G T w Fz id r)(hp:p id=true):RowRel (G.only p) T w Fz id r:=by
 have hR:(G.only p).R id=G.R id:=by simp only[Gh.only,hp]
 have hle:=zmi G p;cases r with
 |free=>exact⟨hR.trans h.1,h.2⟩
 |dead=>intro g hg;exact h g (hR▸hg)
 |cells bx fl ty l=>
  obtain⟨g,h1,h2,h3,h4,h5,h6,c,e,h7,h8,h9,h10,h11⟩:=h;exact⟨g,hR.trans h1,h2,h3,h4,h5,h6,c,e,h7,h8,fun k u hu=>by obtain⟨x,hx,hr⟩:=h9 k u hu;exact⟨x,hx,hr.mono hle⟩,h10,h11⟩
 |map es=>
  obtain⟨g,h1,h2,h3,ents,clock,h4,h5,h6⟩:=h;exact⟨g,hR.trans h1,h2,h3,ents,clock,h4,h5,fun i p e hp he=>by obtain⟨a1,a2,a3,a4⟩:=h6 i p e hp he;exact⟨a1.mono hle,a2.mono hle,a3,a4⟩⟩
 |siter s q=>
  obtain⟨g,h1,h2⟩:=h;exact⟨g,hR.trans h1,h2⟩
 |miter v n q=>
  obtain⟨g,h1,h2,h3,mb,ents,clock,seen,hc,hm,hs,hb,hv,hp,hn⟩:=h;exact⟨g,hR.trans h1,h2,h3,mb,ents,clock,seen,hc,hm,hs,hb,fun e he=>(hv e he).mono hle,hp,hn⟩
theorem yur{ids:List Nat}:∀{H:zj} {n i:Nat},(onlyRows ids n H)[i]? =(H[i]?).map fun r=>if(ids.any (Nat.beq (n+i)))=true then r else .dead:=by
 intro H
 induction H with
 |nil=>intro n i;simp[onlyRows]
 |cons r h ih=>
  intro n i;cases i with
  |zero=>simp only[onlyRows,List.getElem?_cons_zero,Option.map_some,Nat.add_zero];cases ids.any (Nat.beq n)<;>rfl
  |succ i=>simp only[onlyRows,List.getElem?_cons_succ,ih];rw[show n+1+i=n+(i+1) by omega]
theorem xia{ids:List Nat}:∀{H:zj} {n i:Nat},(butRows ids n H)[i]? =(H[i]?).map fun r=>if(ids.any (Nat.beq (n+i)))=true then .dead else r:=by
 intro H
 induction H with
 |nil=>intro n i;simp[butRows]
 |cons r h ih=>
  intro n i;cases i with
  |zero=>simp only[butRows,List.getElem?_cons_zero,Option.map_some,Nat.add_zero];cases ids.any (Nat.beq n)<;>rfl
  |succ i=>simp only[butRows,List.getElem?_cons_succ,ih];rw[show n+1+i=n+(i+1) by omega]
theorem ylz{G:Gh}{w:World}{H H':zj}{Fz:Nat}{p:Nat→Bool}(h:HeapRel G T w H Fz)(hg:∀i,H'[i]? =(H[i]?).map fun r=>if p i=true then r else .dead):HeapRel (G.only p) T w H' Fz:=by
 refine⟨fun id r hr=> ?_,fun id hid=> ?_,fun id hz=> ?_,fun id id' g g' h1 h2 h3=>h.inj id id' g g' (only_live h1).2 (only_live h2).2 h3⟩
 ·rw[hg]at hr
  cases hH:H[id]? with
  |none=>rw[hH]at hr;cases hr
  |some r0=>
   rw[hH]at hr;simp only[Option.map_some,Option.some.injEq]at hr;by_cases hp:p id=true
   ·rw[if_pos hp]at hr;subst hr;exact(h.rows id r0 hH).only hp
   ·rw[if_neg hp]at hr;subst hr
    intro g hg';exact hp (only_live hg').1
 ·rw[hg]at hid
  have h0:H[id]? =none:=by cases hH:H[id]? with|none=>rfl|some r=>rw[hH]at hid;cases hid
  have:=h.out id h0;simp only[Gh.only,this];cases p id<;>rfl
 ·have h1:=h.fz id hz
  refine Classical.byContradiction fun hge=> ?_;have h2:H'[id]? =none:=List.getElem?_eq_none_iff.2 (by omega);rw[hg,List.getElem?_eq_getElem h1]at h2;cases h2
theorem yy5{G:Gh}{w:World}{H:zj}{Fz:Nat}(ids:List Nat)(h:HeapRel G T w H Fz):HeapRel (G.only fun i=>ids.any (Nat.beq i)) T w (onlyRows ids 0 H) Fz:=
 ylz h fun i=>by rw[yur,Nat.zero_add]
theorem yy7{G:Gh}{w:World}{H:zj}{Fz:Nat}(ids:List Nat)(h:HeapRel G T w H Fz):HeapRel (G.only fun i=> !ids.any (Nat.beq i)) T w (butRows ids 0 H) Fz:=
 ylz h fun i=>by rw[xia,Nat.zero_add];cases ids.any (Nat.beq i)<;>rfl
theorem yn0{g:FuncId}{cap args:List V}{k:V→Prog}(h:zau (.fn g cap)=false):callV ih T (.fn g cap) args k=callP ih T g (args++cap) k:=by
 cases cap with
 |nil=>rfl
 |cons c r=>cases c<;>first|rfl|simp[zau]at h
structure Split (T:Tab) (G:Gh) (w:World) (Gm:Gh) (Hm:zj) (Fm:Nat) (Ro:Nat→RS) (Ho:zj) (Fo:Nat):Prop where
 M:Gm.M=G.M
 hm:HeapRel Gm T w Hm Fm
 ho:HeapRel ⟨G.M,Ro⟩ T w Ho Fo
 le:G.le ⟨G.M,Ro⟩
 own:∀b,Gm.owns b→G.owns b
 ownO:∀b,(∃id g,Ro id= .live g∧g.blk=b)→G.owns b
 dis:∀id g id' g',Gm.R id= .live g→Ro id'= .live g'→g.blk≠g'.blk
theorem yq8{G:Gh}{w:World}{H:zj}{Fz:Nat}(h:HeapRel G T w H Fz):Split T G w G.bare [] 0 G.R H Fz:=
 ⟨rfl,zhr G w,h,.refl G,fun b hb=>absurd hb yx,fun b hb=>hb,fun id g id' g' hg=>by simp[Gh.bare]at hg⟩
theorem yq7{G:Gh}{w:World}{H:zj}{Fz:Nat}(ids:List Nat)(h:HeapRel G T w H Fz):
  Split T G w (G.only fun i=>ids.any (Nat.beq i)) (onlyRows ids 0 H) Fz (G.only fun i=> !ids.any (Nat.beq i)).R (butRows ids 0 H) Fz:=
 ⟨rfl,yy5 ids h,yy7 ids h,zmi G _,fun b ⟨id,g,hg,hb⟩=>⟨id,g,(only_live hg).2,hb⟩,fun b ⟨id,g,hg,hb⟩=>⟨id,g,(only_live hg).2,hb⟩,fun id g id' g' hg hg' he=>by
  have h1:=only_live hg;have h2:=only_live hg';have h3:=h.inj id id' g g' h1.2 h2.2 he;rw[h3]at h1;have h4:=h2.1;rw[h1.1]at h4;cases h4⟩
theorem zpx(hT:TabOk P T)(hC:za7 P T ih){st:St}{f:Operand}{ps:Array Tmp}{as body:Code}{g:FuncId}{cap:List V}{v1:V}{m0 m2:Mem}{Ho Hm:zj}{Fo Fm:Nat}{own':Own}(hps:zac st.nt ps.toList=true)
  (hok:codeOk T st.fn as=true∧codeOk T st.fn body=true)
  (h2:Res none (callP ih T g ([.yld m0.S.length]++cap) .ret) ⟨Hm,Fm,m0.S++ [{fn:=st.fn,nt:=st.nt,env:=st.env,H:=Ho,Fz:=Fo,ps:=ps.toList,assign:=as,body:=body,done:=false,pending:=none,fp:=st.fp}]⟩ v1 m2)
  (h3:m2.S.getLast? =some own'){ro:Option Nat}{G0:Gh}{Os0:List OG}{w0:World}{r:Loop}{G1 Gm:Gh}{Ro:Nat→RS}{Os:List OG}{a:Act}{w:World}(hJ1:JS T ro G0 Os0 w0 st.nt r st.ρ m0 G1 Os a w)
  (sp:Split T G1 w Gm Hm Fm Ro Ho Fo)(hfr:Rel Gm (.fn g cap) (a.eval f))(hnm:zau (.fn g cap)=false)(hfp:∀id,st.fp≤id→G0.R id= .fresh)
  {b:Frame}(hro:b.roundOf=ro)(hfn:b.fn=st.fn)(k:List Item)(cs:List Frame):
  own'.fn=st.fn∧own'.nt=st.nt∧(∀c,own'.pending=some c→codeOk T st.fn c=true)∧∃G' Os' a' w',
   StepsIn (Machine.fenced P Fence.wide) P (lone (b.atR a (.code (.rangeFunc f ps as body)::k)) cs w) (lone (b.atR a' ((own'.pending.map Item.code).toList++k)) cs w')∧
   JS T ro G0 Os0 w0 st.nt r (fun t=>lookup t own'.env) ⟨own'.H,own'.Fz,m2.S.dropLast⟩ G' Os' a' w':=by
 obtain⟨v2,m2',h2',hcall⟩:=hC none g _ _ _ _ _ h2
 obtain⟨rfl,rfl⟩:=h2'.ret
  -- the record
 have hlen:m0.S.length=Os.length:=hJ1.good.stk.len
 have enter:∃(l:Nat) (mark:List Deferred) (w1:World) (D:Nat),(Instr.enterLoop b.fn a.tmps ps as body b.roundOf).run P w= .ok (l,mark) w1∧w.heap.size≤l∧l<w1.heap.size∧w.heap.size≤w1.heap.size∧(∀b,b<w.heap.size→w1.heap[b]? =w.heap[b]?)∧Oo w w1∧
   w1.heap[l]? =some (.loop {state:= .ready,pending:=none,fn:=b.fn,tmps:=a.tmps,params:=ps,assign:=as,body:=body,defers:=D})∧
   ((mark= [])∨(ro=none∧mark= [{target:= .collected w.heap.size,args:= #[]}]∧w1.heap[w.heap.size]? =some (.deferred (some []))∧l≠w.heap.size∧w.heap.size<w1.heap.size)):=by
  cases hr:b.roundOf with
  |none=>
   refine⟨w.heap.size+1,_,_,w.heap.size,run_enterLoop_outer _ _ _ _ _,by omega,by rw[yq,yq];omega,by rw[yq,yq];omega,fun b hb=> ?_,⟨rfl,rfl⟩,?_,.inr ⟨by rw[←hro,hr],rfl,?_,by omega,by rw[yq,yq];omega⟩⟩
   ·rw[zj3 (by rw[yq];omega),zj3 hb]
   ·have:=zov (w.alloc (.deferred (some []))) (.loop {state:= .ready,pending:=none,fn:=b.fn,tmps:=a.tmps,params:=ps,assign:=as,body:=body,defers:=w.heap.size})
    rw[yq]at this;exact this
   ·rw[zj3 (by rw[yq];omega),zov]
  |some l0=>
   obtain⟨hl0,_⟩:=hJ1.rou.ex l0 (by rw[←hro,hr]);exact⟨w.heap.size,_,_,_,run_enterLoop_inner hl0 _ _ _ _ _,Nat.le_refl _,by rw[yq];omega,by rw[yq];omega,fun b hb=>zj3 hb,⟨rfl,rfl⟩,zov _ _,.inl rfl⟩
 obtain⟨l,mark,w1,D,he,hl1,hl2,hw1s,hw1k,hw1o,hrec,hmark⟩:=enter;have hfl:∀b,frn Os b→b<w.heap.size:=fun b hb=>hJ1.good.stk.lt hb
 have hol:∀b,G1.owns b→b<w.heap.size:=fun b hb=>hJ1.good.heap.lt hb
  -- the callee's ghost data
 let O:OG:=⟨Ro,l,a.tmps,st.fn,st.fp⟩;have hOhas:∀b,O.has b→b=l∨G1.owns b:=fun b hb=>hb.imp id (sp.ownO b);have hstk1:StkRel T G1.M Os w1 m0.S:=hJ1.good.stk.still (fun _ _ h=>h) (fun b hb=>hw1k b (hfl b hb)) fun _ _=>rfl;let own0:Own:={fn:=st.fn,nt:=st.nt,env:=st.env,H:=Ho,Fz:=Fo,ps:=ps.toList,assign:=as,body:=body,done:=false,pending:=none,fp:=st.fp}
 have hown:OwnRel T G1.M Os O w1 own0:=by
  refine⟨⟨D,?_⟩,hJ1.env.mono sp.le,hJ1.nt,hps,hok,rfl,fun c hc=>(by cases hc),?_,fun id g hg=> ?_,rfl⟩
  ·rw[hrec,hfn];rfl
  ·exact HeapRel.still (M:=G1.M) (R:=Ro) sp.ho (fun _ _ h=>h) fun id g hg=>⟨hw1k _ (hol _ (sp.ownO _ ⟨id,g,hg,rfl⟩)),rfl⟩
  ·have:=hol g.blk (sp.ownO _ ⟨id,g,hg,rfl⟩);show g.blk≠l;omega
 have hstk:StkRel T G1.M (Os++ [O]) w1 (m0.S++ [own0]):=by
  refine⟨by simp[hlen],fun d own O' hd hO'=> ?_,fun d e O1 O2 b h1 h2 hb1 hb2=> ?_⟩
  ·by_cases hdl:d<Os.length
   ·rw[List.getElem?_append_left (by omega)]at hd
    rw[List.getElem?_append_left hdl]at hO';rw[List.take_append_of_le_length (by omega)];exact hstk1.own d own O' hd hO'
   ·have hde:d=Os.length:=by
     have:=(List.getElem?_eq_some_iff.1 hO').1;simp at this;omega
    subst hde;rw[List.getElem?_append_right (by omega)]at hd;simp[hlen]at hd hO';subst hd;subst hO';rw[yqm];exact hown
  ·have cl:∀(d:Nat) O',(Os++ [O])[d]? =some O'→(d<Os.length∧Os[d]? =some O')∨(d=Os.length∧O'=O):=by
    intro d O' h;by_cases hdl:d<Os.length
    ·rw[List.getElem?_append_left hdl]at h;exact .inl ⟨hdl,h⟩
    ·have hde:d=Os.length:=by
      have:=(List.getElem?_eq_some_iff.1 h).1;simp at this;omega
     subst hde;simp at h;exact .inr ⟨rfl,h.symm⟩
   have cross:∀O',O'∈Os→O'.has b→O.has b→False:=by
    intro O' hO' hb hbO;have hf:frn Os b:=⟨O',hO',hb⟩;rcases hOhas b hbO with rfl|ho
    ·have:=hfl _ hf;omega
    ·exact hJ1.good.sep b ho hf
   rcases cl d O1 h1 with⟨hd,h1⟩|⟨rfl,rfl⟩
   ·rcases cl e O2 h2 with⟨he,h2⟩|⟨rfl,rfl⟩
    ·exact hstk1.dis d e O1 O2 b h1 h2 hb1 hb2
    ·exact(cross O1 (List.mem_of_getElem? h1) hb1 hb2).elim
   ·rcases cl e O2 h2 with⟨he,h2⟩|⟨rfl,rfl⟩
    ·exact(cross O2 (List.mem_of_getElem? h2) hb2 hb1).elim
    ·rfl
 have hmem1:MRel Gm T w1:=by
  have h5:MRel Gm T w:=hJ1.good.mem.of sp.M fun g cs hcs=>by obtain⟨_,_,_,h3,_⟩:=hJ1.good.mem.glob g cs hcs;exact h3
  refine MRel.still (M:=Gm.M) (R:=Gm.R) h5 (fun _=>rfl) fun b c hc=>hw1k b (h5.lt hc)
 have hgc:Good T Gm (Os++ [O]) w1 ⟨Hm,Fm,m0.S++ [own0]⟩:=by
  refine⟨HeapRel.still (M:=Gm.M) (R:=Gm.R) sp.hm (fun _ _ h=>h) fun id g hg=>⟨hw1k _ (hol _ (sp.own _ ⟨id,g,hg,rfl⟩)),rfl⟩,hmem1,sp.M▸hstk,?_⟩;rintro b hb ⟨O2,hO2,hb2⟩;rcases List.mem_append.1 hO2 with hO2|hO2
  ·exact hJ1.good.sep b (sp.own b hb) ⟨O2,hO2,hb2⟩
  ·simp only[List.mem_singleton]at hO2
   subst hO2;rcases hb2 with h4|⟨id',g',hg',hb'⟩
   ·have:=hol _ (sp.own _ hb);have h5:b=l:=h4;omega
   ·obtain⟨id,g,hg,hb⟩:=hb
    exact sp.dis id g id' g' hg hg' (hb.trans hb'.symm)
  -- the call
 obtain⟨a0,hfr',hs,ha⟩:∃a0,a.eval f= .func (.func g) #[] a0∧a0.size=cap.length∧∀(i:Nat) v x,cap[i]? =some v→a0[i]? =some x→Rel Gm v x:=by
  cases hfr':a.eval f<;>rw[hfr']at hfr<;>(try cases hfr)
  ·exact⟨_,rfl,‹_›,‹_›⟩
  ·simp[zau]at hnm
 have hxs:RelLT Gm (Os++ [O]) ([.yld m0.S.length]++cap) (#[.func (.yield l) #[] #[]]++a0):=by
  refine⟨by simp[hs],fun i v y hv hy=> ?_⟩;cases i with
  |zero=>
   simp at hv hy;subst hv;subst hy;exact⟨O,by rw[hlen];simp,rfl⟩
  |succ i=>
   simp at hv hy;exact(ha i v y hv hy).toT
 obtain⟨hcf,hci⟩:=(hcall Gm (Os++ [O]) w1 _ hxs hgc).resolve_right fun hh=>by have:=hh.1;simp[z9,zm]at this
 have hres:(resolve a.eval (rangeCall f l) 0).run P w1= .ok {target:= .fn (.func g) a0,args:= #[]++ #[.func (.yield l) #[] #[]]} w1:=by
  unfold resolve;simp only[rangeCall,hfr'];simp[Deferred.ofValue,Act.eval]
 have hinv:(invoke (.fn (.func g) a0) (#[]++ #[.func (.yield l) #[] #[]])).run P w1= .ok (.enter g (#[.func (.yield l) #[] #[]]++a0)) w1:=by
  simp only[invoke,Array.empty_append];exact hcf
 have hstep:=stepR_rangeFunc (P:=P) (b:=b) (a:=a) (k:=k) (cs:=cs) (w:=w) he hres hinv;obtain⟨e,w',fr,hR,hsteps,hfrn,hleave⟩:=hci.2 (b.atR {a with defers:=mark++a.defers} (.inRangeFunc l::k)::cs) (room_wide _)
 obtain⟨y,Gc,Os',rfl,hrv,hst,hgd⟩:=hR
  -- the owner, back again
 have hlen':Os'.length=Os.length+1:=by have:=congrArg List.length hst.sig;simpa using this
 have hSl:m2.S.length=Os'.length:=hgd.stk.len;have hO':∃O',Os'[Os.length]? =some O':=⟨_,List.getElem?_eq_getElem (by omega)⟩;obtain⟨O',hO'⟩:=hO'
 have hown':m2.S[Os.length]? =some own':=by
  rw[List.getLast?_eq_getElem?,hSl,hlen']at h3;simpa using h3
 have hor:=hgd.stk.own _ _ _ hown' hO';have hole:OLe w1.heap.size O O':=hst.ow Os.length O O' (by simp) hO'
 have hsig:O'.l=l∧O'.tmps=a.tmps∧O'.fn=st.fn:=by
  have:=hole.sig;simp only[OG.sig,Prod.mk.injEq]at this;exact this
 have htk:∀d,d<Os.length→(Os'.take Os.length)[d]? =Os'[d]? :=fun d hd=>by rw[List.getElem?_take,if_pos hd]
 refine⟨hor.fn.trans hsig.2.2,?_,fun c hc=> ?_,?_⟩
 ·rw[←hor.nt,hsig.2.1];exact hJ1.nt
 ·have:=hor.pend c hc;rwa [hor.fn.trans hsig.2.2]at this
 obtain⟨D',hrec'⟩:=hor.lrec;rw[hsig.1]at hrec';have hend:=run_endLoop (P:=P) hrec' (by split<;>simp)
 simp only at hend
  -- the machine's steps
 have hl:(lone fr (b.atR {a with defers:=mark++a.defers} (.inRangeFunc l::k)::cs) w').fenced P Fence.wide:=fenced_wide _ _;have hback:=step_leave_returned (c:=b.atR {a with defers:=mark++a.defers} (.inRangeFunc l::k)) (cs:=cs) hleave;rw[finish_atR_inRangeFunc]at hback
 have hfin:StepsIn (Machine.fenced P Fence.wide) P (lone (b.atR a (.code (.rangeFunc f ps as body)::k)) cs w)
   (lone (b.atR {a with defers:=mark++a.defers} ((own'.pending.map Item.code).toList++k)) cs (w'.putObj l (.loop {state:= .exhausted,pending:=own'.pending,fn:=own'.fn,tmps:=O'.tmps,params:=own'.ps.toArray,assign:=own'.assign,body:=own'.body,defers:=D'}))):=
  .head (fenced_wide _ _) hstep (StepsIn.trans hsteps (.head hl hback (.one (fenced_wide _ _) (stepR_endRangeFunc hend))))
 refine⟨⟨Gc.M,O'.R⟩,Os'.take Os.length,_,_,hfin,?_⟩
  -- what is told of it
 have hfrn:∀b,frn (Os'.take Os.length) b→∃d O1,d<Os.length∧Os'[d]? =some O1∧O1.has b:=by
  rintro b ⟨O1,hO1,hb⟩;obtain⟨d,hd,rfl⟩:=List.mem_iff_getElem.1 hO1;have hdl:d<Os.length:=by simp at hd;omega
  exact⟨d,_,hdl,by rw[←htk d hdl];exact List.getElem?_eq_getElem hd,hb⟩
 have hfrn2:∀b,frn (Os'.take Os.length) b→frn Os b∨w.heap.size≤b:=by
  intro b hb;obtain⟨d,O1,hd,hO1,hb⟩:=hfrn b hb;have hO:=List.getElem?_eq_getElem hd;rcases(hst.ow d Os[d] O1 (by rw[List.getElem?_append_left hd];exact hO) hO1).has b hb with h|h
  ·exact .inl ⟨_,List.getElem_mem hd,h⟩
  ·exact .inr (Nat.le_trans hw1s h)
 have hOown:∀b,(⟨Gc.M,O'.R⟩:Gh).owns b→O'.has b:=fun b hb=> .inr hb
 have hOown2:∀b,(⟨Gc.M,O'.R⟩:Gh).owns b→G1.owns b∨w.heap.size≤b:=by
  intro b hb;rcases hole.has b (hOown b hb)with h|h
  ·rcases hOhas b h with rfl|h
   ·exact .inr hl1
   ·exact .inl h
  ·exact .inr (Nat.le_trans hw1s h)
 have hsep:∀b,(⟨Gc.M,O'.R⟩:Gh).owns b→¬frn (Os'.take Os.length) b:=by
  intro b hb hf;obtain⟨d,O1,hd,hO1,hb1⟩:=hfrn b hf;have:=hgd.stk.dis d Os.length O1 O' b hO1 hO' hb1 (hOown b hb);omega
 have hnl:∀b,frn (Os'.take Os.length) b→b≠l:=by
  rintro b hf rfl;obtain⟨d,O1,hd,hO1,hb1⟩:=hfrn b hf;have:=hgd.stk.dis d Os.length O1 O' b hO1 hO' hb1 (.inl hsig.1.symm);omega
 have hMl:∀b c,Gc.M b=some c→b≠l:=by
  rintro b c hc rfl;obtain⟨o,hcell,hob⟩:=hgd.mem.mem b c hc;rw[hcell]at hrec';cases hrec';cases c with
  |cells c=>obtain⟨e,fr,h⟩:=hob;cases h
  |map es k=>cases hob
 have hput:∀b o,b≠l→(w'.putObj l o).heap[b]? =w'.heap[b]? :=fun b o hb=>World.putObj_heap_other hb
 have hkeep:∀b,b<w.heap.size→¬G1.owns b→¬frn Os b→∀o,(w'.putObj l o).heap[b]? =w.heap[b]? :=by
  intro b hb h1 h2 o;rw[hput b o (by omega),hst.keep b (by omega) (fun h=>h1 (sp.own b h)) ?_ id,hw1k b hb];rintro⟨O2,hO2,hb2⟩;rcases List.mem_append.1 hO2 with hO2|hO2
  ·exact h2 ⟨O2,hO2,hb2⟩
  ·simp only[List.mem_singleton]at hO2
   subst hO2;rcases hOhas b hb2 with rfl|h
   ·omega
   ·exact h1 h
 have hMs:∀b,b<w.heap.size→¬G1.owns b→¬frn Os b→Gc.M b=G1.M b:=by
  intro b hb h1 h2;rw[←sp.M];refine za4 hst (fun h=>h1 (sp.own b h)) ?_ (by omega);rintro⟨O2,hO2,hb2⟩;rcases List.mem_append.1 hO2 with hO2|hO2
  ·exact h2 ⟨O2,hO2,hb2⟩
  ·simp only[List.mem_singleton]at hO2
   subst hO2;rcases hOhas b hb2 with rfl|h
   ·omega
   ·exact h1 h
 have hsigs:(Os'.take Os.length).map OG.sig=Os.map OG.sig:=by
  rw[List.map_take,hst.sig,List.map_append,List.take_append_of_le_length (by simp),List.take_of_length_le (by simp)]
 have hle:G0.le ⟨Gc.M,O'.R⟩:=by
  refine⟨fun b c hc=>hst.le.M b c (by rw[sp.M];exact hJ1.stp.le.M b c hc),fun id hid=> ?_⟩
  have hlt:id<st.fp:=by
   refine Classical.byContradiction fun hge=>hid (hfp id (by omega))
  have e1:=hJ1.stp.le.R id hid;have e2:=sp.le.R id e1.1;have e3:=hole.R id hlt e2.1;exact⟨e3.1,fun g hg=>e1.2 g (e2.2 g (e3.2 g hg))⟩
 have hstp:Stp (fun b=>ro=some b) G0 Os0 w0 ⟨Gc.M,O'.R⟩ (Os'.take Os.length) (w'.putObj l (.loop {state:= .exhausted,pending:=own'.pending,fn:=own'.fn,tmps:=O'.tmps,params:=own'.ps.toArray,assign:=own'.assign,body:=own'.body,defers:=D'})):=by
  refine hJ1.stp.trans0 hle ⟨by rw[World.putObj_size];exact Nat.le_trans hw1s hst.size,hsigs,hOown2,hfrn2,fun b c hc=> ?_,fun b hb h1 h2 _=>hkeep b hb h1 h2 _,fun d O1 O2 hd hd'=> ?_,hw1o.trans (hst.oo.trans ⟨rfl,rfl⟩)⟩
  ·rcases hst.mem b c hc with h|h|h|h
   ·exact .inl (sp.M▸h)
   ·exact .inr (.inl (sp.own _ h))
   ·obtain⟨O2,hO2,hb2⟩:=h
    rcases List.mem_append.1 hO2 with hO2|hO2
    ·exact .inr (.inr (.inl ⟨O2,hO2,hb2⟩))
    ·simp only[List.mem_singleton]at hO2
     subst hO2;rcases hOhas b hb2 with rfl|h
     ·exact .inr (.inr (.inr hl1))
     ·exact .inr (.inl h)
   ·exact .inr (.inr (.inr (Nat.le_trans hw1s h)))
  ·have hdl:d<Os.length:=(List.getElem?_eq_some_iff.1 hd).1
   rw[htk d hdl]at hd';have:=hst.ow d O1 O2 (by rw[List.getElem?_append_left hdl];exact hd) hd';exact⟨this.sig,this.R,fun b hb=>(this.has b hb).elim .inl fun h=> .inr (Nat.le_trans hw1s h),this.low⟩
 have hSd:∀(d:Nat) own,m2.S.dropLast[d]? =some own→d<Os.length∧m2.S[d]? =some own:=by
  intro d own hd;have hlt:=(List.getElem?_eq_some_iff.1 hd).1;rw[List.length_dropLast]at hlt;rw[List.dropLast_eq_take,List.getElem?_take,if_pos hlt]at hd;exact⟨by omega,hd⟩
 refine⟨hstp,?_,by exact hJ1.nt,⟨?_,?_,⟨?_,fun d own O1 hd hO1=> ?_,fun d e O1 O2 b h1 h2 hb1 hb2=> ?_⟩,hsep⟩,⟨fun d hd=> ?_,?_⟩,⟨fun l0 hl0=> ?_⟩⟩
 ·have:=hor.env
  rw[hsig.2.1]at this;exact this
 ·exact HeapRel.still (M:=Gc.M) (R:=O'.R) hor.heap (fun _ _ h=>h) fun id g hg=>⟨hput _ _ (fun e=>hor.free id g hg (e.trans hsig.1.symm)),rfl⟩
 ·exact MRel.still (M:=Gc.M) (R:=Gc.R) hgd.mem (fun _=>rfl) fun b c hc=>hput b _ (hMl b c hc)
 ·simp;omega
 ·obtain⟨hdl,hd⟩:=hSd d own hd
  rw[htk d hdl]at hO1;have h9:=hgd.stk.own d own O1 hd hO1;have e9:(Os'.take Os.length).take d=Os'.take d:=by rw[List.take_take,Nat.min_eq_left (by omega)]
  rw[e9];refine h9.still rfl (fun _ _ h=>h) (fun b hb=>hput b _ (hnl b ⟨O1,?_,hb⟩)) fun _ _=>rfl;exact List.mem_of_getElem? (by rw[htk d hdl];exact hO1)
 ·have g1:d<Os.length:=by have:=(List.getElem?_eq_some_iff.1 h1).1;simp at this;omega
  have g2:e<Os.length:=by have:=(List.getElem?_eq_some_iff.1 h2).1;simp at this;omega
  rw[htk d g1]at h1;rw[htk e g2]at h2;exact hgd.stk.dis d e O1 O2 b h1 h2 hb1 hb2
 ·rcases List.mem_append.1 hd with hd|hd
  ·-- this loop's mark
   rcases hmark with rfl|⟨hron,rfl,hDw,hlD,hDs⟩
   ·cases hd
   ·simp only[List.mem_singleton]at hd
    subst hd;have hDo:¬G1.owns w.heap.size:=fun h=>by have:=hol _ h;omega
    have hDf:¬frn (Os++ [O]) w.heap.size:=by
     rintro⟨O2,hO2,hb2⟩;rcases List.mem_append.1 hO2 with hO2|hO2
     ·have:=hfl _ ⟨O2,hO2,hb2⟩;omega
     ·simp only[List.mem_singleton]at hO2
      subst hO2;rcases hOhas _ hb2 with h|h
      ·exact hlD h.symm
      ·exact hDo h
    refine⟨w.heap.size,rfl,hJ1.stp.size,?_,fun ho=> ?_,fun hf=> ?_,by rw[hron];simp,?_⟩
    ·rw[hput _ _ (fun e=>hlD e.symm),hst.keep _ hDs (fun h=>hDo (sp.own _ h)) hDf id];exact hDw
    ·rcases hole.has _ (hOown _ ho)with h|h
     ·rcases hOhas _ h with h|h
      ·exact hlD h.symm
      ·exact hDo h
     ·omega
    ·obtain⟨d,O1,hd,hO1,hb1⟩:=hfrn _ hf
     have hO:=List.getElem?_eq_getElem hd;rcases(hst.ow d Os[d] O1 (by rw[List.getElem?_append_left hd];exact hO) hO1).has _ hb1 with h|h
     ·have:=hfl _ ⟨_,List.getElem_mem hd,h⟩;omega
     ·omega
    ·rw[za4 hst (fun h=>hDo (sp.own _ h)) hDf hDs,sp.M]
     cases hx:G1.M w.heap.size with
     |none=>rfl
     |some c=>have:=hJ1.good.mem.lt hx;omega
  ·obtain⟨D1,e1,e2,e3,e4,e5,e6,e7⟩:=hJ1.defs.mark d hd
   have hlt:D1<w.heap.size:=(Array.getElem?_eq_some_iff.1 e3).1;refine⟨D1,e1,e2,(hkeep D1 hlt e4 e5 _).trans e3,fun ho=> ?_,fun hf=> ?_,e6,(hMs D1 hlt e4 e5).trans e7⟩
   ·rcases hOown2 _ ho with h|h
    ·exact e4 h
    ·omega
   ·rcases hfrn2 _ hf with h|h
    ·exact e5 h
    ·omega
 ·rcases hmark with rfl|⟨hron,rfl,hDw,hlD,hDs⟩
  ·exact hJ1.defs.apart
  ·refine List.Pairwise.cons (fun d hd D1 h1 h2=> ?_) hJ1.defs.apart
   obtain⟨D2,e1,_,e3,_⟩:=hJ1.defs.mark d hd;have hlt:D2<w.heap.size:=(Array.getElem?_eq_some_iff.1 e3).1;simp only[Target.collected.injEq]at h1;rw[e1]at h2;simp only[Target.collected.injEq]at h2;omega
 ·obtain⟨e1,e2,e3,e4⟩:=hJ1.rou.ex l0 hl0
  have hlt:l0<w.heap.size:=(Array.getElem?_eq_some_iff.1 e1).1;refine⟨(hkeep l0 hlt e2 e3 _).trans e1,fun ho=> ?_,fun hf=> ?_,(hMs l0 hlt e2 e3).trans e4⟩
  ·rcases hOown2 _ ho with h|h
   ·exact e2 h
   ·omega
  ·rcases hfrn2 _ hf with h|h
   ·exact e3 h
   ·omega
theorem ysz(hT:TabOk P T)(hC:za7 P T ih){st:St}{f:Operand}{ps:Array Tmp}{as body:Code}{fv v1:V}{m0 m2:Mem}{own':Own}(hps:zac st.nt ps.toList=true)
  (hok:codeOk T st.fn as=true∧codeOk T st.fn body=true)
  (h1:Res none (vd T (st.eval f) .ret) st.mem fv m0)(hnm:zau fv=false)
  (h2:Res none (callV ih T fv [.yld m0.S.length] .ret) ⟨[],0,m0.S++ [{fn:=st.fn,nt:=st.nt,env:=st.env,H:=m0.H,Fz:=m0.Fz,ps:=ps.toList,assign:=as,body:=body,done:=false,pending:=none,fp:=st.fp}]⟩ v1 m2)
  (h3:m2.S.getLast? =some own'){ro:Option Nat}{G0:Gh}{Os0:List OG}{w0:World}{r:Loop}{G:Gh}{Os:List OG}{a:Act}{w:World}(hJ:JS T ro G0 Os0 w0 st.nt r st.ρ st.mem G Os a w)(hfp:∀id,st.fp≤id→G0.R id= .fresh)
  {b:Frame}(hro:b.roundOf=ro)(hfn:b.fn=st.fn)(k:List Item)(cs:List Frame):
  own'.fn=st.fn∧own'.nt=st.nt∧(∀c,own'.pending=some c→codeOk T st.fn c=true)∧∃G' Os' a' w',
   StepsIn (Machine.fenced P Fence.wide) P (lone (b.atR a (.code (.rangeFunc f ps as body)::k)) cs w) (lone (b.atR a' ((own'.pending.map Item.code).toList++k)) cs w')∧
   JS T ro G0 Os0 w0 st.nt r (fun t=>lookup t own'.env) ⟨own'.H,own'.Fz,m2.S.dropLast⟩ G' Os' a' w':=by
 obtain⟨fv',m0',h1',hS0,hk,hf⟩:=zkk _ _ _ _ _ h1;obtain⟨rfl,rfl⟩:=h1'.ret;obtain⟨G1,f1,hpu,r1⟩:=hf G w hJ.good.heap hJ.good.mem;have hJ1:=hJ.step (f1.step.stp Os) (hJ.good.local f1.step f1.heap f1.mem hS0);have hev:RelT G Os (st.eval f) (a.eval f):=by have:=zh6 hJ.env f;rw[zdx]at this;exact this
 obtain⟨g,cap,rfl⟩:∃g cap,fv= .fn g cap:=by
  cases fv<;>first|exact⟨_,_,rfl⟩|(unfold callV at h2;exact h2.fail.elim)
 have hy0:zm (st.eval f)=false:=by have:=hk.yld;simpa[zm]using this.symm
 have hfr:Rel G1 (.fn g cap) (a.eval f):=r1 _ (hev.rel hy0);rw[yn0 hnm]at h2;exact zpx hT hC hps hok h2 h3 hJ1 (yq8 hJ1.good.heap) (hfr.bare hpu) hnm hfp hro hfn k cs
theorem ys0(hT:TabOk P T)(hC:za7 P T ih){st:St}{f:Operand}{ps:Array Tmp}{as body:Code}{v1:V}{m2:Mem}{own':Own}(hps:zac st.nt ps.toList=true)
  (hok:codeOk T st.fn as=true∧codeOk T st.fn body=true)(hnm:zau (st.eval f)=false)
  (h2:Res none (callV ih T (st.eval f) [.yld st.S.length] .ret) ⟨onlyRows (idsV (st.eval f)) 0 st.H,st.Fz,st.S++ [{fn:=st.fn,nt:=st.nt,env:=st.env,H:=butRows (idsV (st.eval f)) 0 st.H,Fz:=st.Fz,ps:=ps.toList,assign:=as,body:=body,done:=false,pending:=none,fp:=st.fp}]⟩ v1 m2)
  (h3:m2.S.getLast? =some own'){ro:Option Nat}{G0:Gh}{Os0:List OG}{w0:World}{r:Loop}{G:Gh}{Os:List OG}{a:Act}{w:World}(hJ:JS T ro G0 Os0 w0 st.nt r st.ρ st.mem G Os a w)(hfp:∀id,st.fp≤id→G0.R id= .fresh)
  {b:Frame}(hro:b.roundOf=ro)(hfn:b.fn=st.fn)(k:List Item)(cs:List Frame):
  own'.fn=st.fn∧own'.nt=st.nt∧(∀c,own'.pending=some c→codeOk T st.fn c=true)∧∃G' Os' a' w',
   StepsIn (Machine.fenced P Fence.wide) P (lone (b.atR a (.code (.rangeFunc f ps as body)::k)) cs w) (lone (b.atR a' ((own'.pending.map Item.code).toList++k)) cs w')∧
   JS T ro G0 Os0 w0 st.nt r (fun t=>lookup t own'.env) ⟨own'.H,own'.Fz,m2.S.dropLast⟩ G' Os' a' w':=by
 have hev:RelT G Os (st.eval f) (a.eval f):=by have:=zh6 hJ.env f;rw[zdx]at this;exact this
 obtain⟨g,cap,he⟩:∃g cap,st.eval f= .fn g cap∨∃n,st.eval f= .yld n:=by
  cases hf:st.eval f<;>rw[hf]at h2<;>first|exact⟨_,_,.inl rfl⟩|exact⟨0,[],.inr ⟨_,rfl⟩⟩|(unfold callV at h2;exact h2.fail.elim)
 rcases he with he|⟨n,he⟩
 ·rw[he]at h2 hev hnm
  rw[yn0 hnm]at h2;have hfr:Rel G (.fn g cap) (a.eval f):=hev;exact zpx hT hC hps hok h2 h3 hJ (yq7 (idsV (.fn g cap)) hJ.good.heap) (hfr.mono (zmi G _)) hnm hfp hro hfn k cs
 ·exfalso
  rw[he]at h2;unfold callV at h2;obtain⟨args',m0,h,hS0,hl,hk,hf⟩:=zgg h2;have hyl:=h.needP.1;have:=(hk 0 (.yld st.S.length) (args'[0]'(by rw[hl];simp)) rfl (List.getElem?_eq_getElem _)).yld;have h2:zm (args'[0]'(by rw[hl];simp))=false:=za8.1 (by simpa using hyl) _ (List.getElem_mem _);rw[h2]at this;cases this
end
def vz(T:Tab)(f:FuncId):Item→Bool
 | .code c=>codeOk T f c
 | .inLoop b=>codeOk T f b
 | .inScope _=>true
 | .inBlock _=>true
 | .beginRound=>true
 |_=>false
def x8(T:Tab)(f:FuncId):List Item→Bool
 | []=>true
 |i::k=>vz T f i&&x8 T f k
def xm:List Item→Nat
 | []=>0
 | .beginRound::k=>xm k+1
 |_::k=>xm k
section
variable {P:Program} {T:Tab} {ih:Ih}
theorem xa6{f:FuncId}{id:Nat}:∀{k k':List Item},exitTo id k=some k'→x8 T f k=true→x8 T f k'=true∧xm k'≤xm k:=by
 intro k
 induction k with
 |nil=>intro k' h;simp[exitTo]at h
 |cons i k ih=>
  intro k' h hok;simp only[x8,Bool.and_eq_true]at hok;have hb:xm k≤xm (i::k):=by cases i<;>simp[xm]
  have rest:exitTo id k=some k'→x8 T f k'=true∧xm k'≤xm (i::k):=fun h'=>let⟨h1,h2⟩:=ih h' hok.2;⟨h1,Nat.le_trans h2 hb⟩;cases i with
  |inBlock id'=>
   simp only[exitTo]at h;split at h
   ·simp only[Option.some.injEq]at h;subst h;exact⟨hok.2,hb⟩
   ·exact rest h
  |_=>exact rest (by simpa[exitTo]using h)
structure RunEnd (T:Tab) (rnd:Bool) (ro:Option Nat) (G0:Gh) (Os0:List OG) (w0:World) (f:FuncId) (nt:Nat) (r:Loop) (out:Out) (e:Exit) (a:Act) (w:World):Prop where
 ex:∃G Os st' r' jump,JS T ro G0 Os0 w0 nt r' st'.ρ st'.mem G Os a w∧st'.fn=f∧st'.nt=nt∧r'={r with state:=r'.state}∧zdg T rnd st' jump=some out∧((e= .normal∧jump=none)∨(e= .ret∧jump=some .ret)∨∃id,e= .exit id∧jump=some (.exit id))
def Beg(items:List Item)(ro:Option Nat)(r:Loop):Prop:=xm items≤1∧(xm items=1→r.state= .ready∧ro.isSome=true)
theorem Beg.of_le{items items':List Item}{ro:Option Nat}{r:Loop}(h:Beg items ro r)(hle:xm items'≤xm items):Beg items' ro r:=
 ⟨Nat.le_trans hle h.1,fun h1=>h.2 (by have:=h.1;omega)⟩
def RunGoal(P:Program)(T:Tab)(rnd:Bool)(items:List Item)(st:St)(out:Out):Prop:=
 ∀(ro:Option Nat) (G0:Gh) (Os0:List OG) (w0:World) (r:Loop) (G:Gh) (Os:List OG) (a:Act) (w:World) (b:Frame) (cs:List Frame),
  b.roundOf=ro→b.fn=st.fn→ro.isSome=rnd→JS T ro G0 Os0 w0 st.nt r st.ρ st.mem G Os a w→x8 T st.fn items=true→Beg items ro r→(∀id,st.fp≤id→G0.R id= .fresh)→
  ∃e a' w',RunEnd T rnd ro G0 Os0 w0 st.fn st.nt r out e a' w'∧ArrivesIn (Machine.fenced P Fence.wide) P (lone (b.atR a items) cs w) b [] cs e a' w'
def yoz(P:Program)(T:Tab)(ih:Ih):Prop:=
 ∀rnd b k st out,ih.loop rnd (.code (.loop b)::k) st=some out→RunGoal P T rnd (.code b:: .inLoop b::k) st out
theorem zad{m m':Machine}(h:step P m= .next m'):StepsIn (Machine.fenced P Fence.wide) P m m':= .one (fenced_wide P m) h
theorem RunGoal.step{rnd:Bool}{items items':List Item}{st:St}{out:Out}(hs:∀(b:Frame) (a:Act) (cs:List Frame) (w:World),step P (lone (b.atR a items) cs w)= .next (lone (b.atR a items') cs w))
  (hok:x8 T st.fn items=true→x8 T st.fn items'=true)(hb:xm items'≤xm items)(h:RunGoal P T rnd items' st out):RunGoal P T rnd items st out:=by
 intro ro G0 Os0 w0 r G Os a w b cs h1 h2 h3 h4 h5 h6 h7;obtain⟨e,a',w',e1,e2⟩:=h ro G0 Os0 w0 r G Os a w b cs h1 h2 h3 h4 (hok h5) (h6.of_le hb) h7;exact⟨e,a',w',e1,.of_steps (zad (hs b a cs w)) e2⟩
theorem ylt{rnd:Bool}{items:List Item}{st st1:St}{body:Code}{out:Out}(hk:jn T st body=some st1)(h:RunGoal P T rnd items st1 out):RunGoal P T rnd items st out:=by
 unfold jn at hk;split at hk
 ·rename_i ks _
  obtain⟨e1,e2,e3,hg⟩:=yzw hk;intro ro G0 Os0 w0 r G Os a w b cs h1 h2 h3 h4 h5 h6 h7;obtain⟨G',hJ⟩:=hg ro G0 Os0 w0 r G Os a w h4 h7;rw[←e2]at hJ;have:=h ro G0 Os0 w0 r G' Os a w b cs h1 (h2.trans e1.symm) h3 hJ (by rw[e1];exact h5) h6 (by rw[e3];exact h7);rw[e1,e2]at this;exact this
 ·simp only[Option.some.injEq]at hk
  subst hk;exact h
theorem JS.putRec{ro:Option Nat}{G0:Gh}{Os0:List OG}{w0:World}{nt:Nat}{r r':Loop}{ρ:Ev}{m:Mem}{G:Gh}{Os:List OG}{a:Act}{w:World}{l:Nat}(h:JS T ro G0 Os0 w0 nt r ρ m G Os a w)(hl:ro=some l):
  JS T ro G0 Os0 w0 nt r' ρ m G Os a (w.putObj l (.loop r')):=by
 obtain⟨h1,h2,h3,h4⟩:=h.rou.ex l hl;have hlt:l<w.heap.size:=(Array.getElem?_eq_some_iff.1 h1).1;have hput:∀b,b≠l→(w.putObj l (.loop r')).heap[b]? =w.heap[b]? :=fun b hb=>World.putObj_heap_other hb;refine⟨⟨h.stp.le,by rw[World.putObj_size];exact h.stp.size,h.stp.sig,h.stp.owns,h.stp.frn,h.stp.mem,fun b hb h5 h6 h7=> ?_,h.stp.ow,h.stp.oo.trans ⟨rfl,rfl⟩⟩,h.env,h.nt,⟨?_,?_,?_,h.good.sep⟩,⟨fun d hd=> ?_,h.defs.apart⟩,⟨fun l' hl'=> ?_⟩⟩
 ·rw[hput b (fun e=>h7 (by rw[hl,e]))];exact h.stp.keep b hb h5 h6 h7
 ·exact HeapRel.still (M:=G.M) (R:=G.R) h.good.heap (fun _ _ h=>h) fun id g hg=>⟨hput _ fun e=>h2 ⟨id,g,hg,e⟩,rfl⟩
 ·exact MRel.still (M:=G.M) (R:=G.R) h.good.mem (fun _=>rfl) fun b c hc=>hput b fun e=>by rw[e,h4]at hc;cases hc
 ·exact h.good.stk.still (fun _ _ h=>h) (fun b hb=>hput b fun e=>h3 (e▸hb)) fun _ _=>rfl
 ·obtain⟨D,e1,e2,e3,e4,e5,e6,e7⟩:=h.defs.mark d hd
  exact⟨D,e1,e2,(hput D fun e=>e6 (by rw[hl,e])).trans e3,e4,e5,e6,e7⟩
 ·rw[hl]at hl';cases hl'
  exact⟨World.putObj_heap_same hlt,h2,h3,h4⟩
theorem zng{rnd:Bool}{st:St}{jump:Option Code}{out:Out}(h:je T rnd st jump=some out){ro:Option Nat}{G0:Gh}{Os0:List OG}{w0:World}{r:Loop}{G:Gh}{Os:List OG}{a:Act}{w:World}
  (hJ:JS T ro G0 Os0 w0 st.nt r st.ρ st.mem G Os a w)(h7:∀id,st.fp≤id→G0.R id= .fresh){e:Exit}(he:(e= .normal∧jump=none)∨(e= .ret∧jump=some .ret)∨∃id,e= .exit id∧jump=some (.exit id)):
  RunEnd T rnd ro G0 Os0 w0 st.fn st.nt r out e a w:=by
 exact⟨G,Os,st,r,jump,hJ,rfl,rfl,rfl,h,he⟩
theorem yrp(hT:TabOk P T)(hF:FnsOk P T)(hC:za7 P T ih)(hY:zd8 P T ih)(hL:yoz P T ih):∀(n:Nat) (rnd:Bool) (items:List Item) (st:St) (out:Out),runK ih T rnd n items st=some out→RunGoal P T rnd items st out:=by
 intro n
 induction n with
 |zero=>intro rnd items st out h;simp[runK]at h
 |succ n ihn=>
  intro rnd items st out h;unfold runK at h;split at h
  ·-- the end
   intro ro G0 Os0 w0 r G Os a w b cs h1 h2 h3 h4 h5 h6 h7;exact⟨.normal,a,w,zng h h4 h7 (.inl ⟨rfl,rfl⟩),.refl _⟩
  ·rename_i c k
   split at h
   ·exact(ihn _ _ _ _ h).step (fun _ _ _ _=>stepR_skip) (by simp[x8]) (by simp[xm])
   ·exact(ihn _ _ _ _ h).step (fun _ _ _ _=>stepR_label) (by simp[x8]) (by simp[xm])
   ·-- ret
    intro ro G0 Os0 w0 r G Os a w b cs h1 h2 h3 h4 h5 h6 h7;refine⟨.ret,a,w,zng h h4 h7 (.inr (.inl ⟨rfl,rfl⟩)),fun hr=>⟨_,zad (stepR_ret hr)⟩,fun _=>⟨k,.refl _⟩⟩
   ·exact(ihn _ _ _ _ h).step (fun _ _ _ _=>stepR_seq) (by simp[x8,vz,codeOk];intros;simp[*]) (by simp[xm])
   ·-- cond
    rename_i c x y;obtain⟨bv,hb,h⟩:=zos h;intro ro G0 Os0 w0 r G Os a w b cs h1 h2 h3 h4 h5 h6 h7;have he:=zh6 h4.env c;rw[zdx,hb]at he;have he:Rel G (.bool bv) (a.eval c):=he;have hev:a.eval c= .bool bv:=by cases hq:a.eval c<;>rw[hq]at he<;>cases he;rfl
    simp only[x8,vz,codeOk,Bool.and_eq_true]at h5;cases bv with
    |true=>
     obtain⟨e,a',w',e1,e2⟩:=ihn _ _ _ _ (show runK ih T rnd n (.code x::k) st=some out from h) ro G0 Os0 w0 r G Os a w b cs h1 h2 h3 h4 (by simp[x8,vz,h5]) (h6.of_le (by simp[xm])) h7;exact⟨e,a',w',e1,.of_steps (zad (stepR_cond hev)) e2⟩
    |false=>
     obtain⟨e,a',w',e1,e2⟩:=ihn _ _ _ _ (show runK ih T rnd n (.code y::k) st=some out from h) ro G0 Os0 w0 r G Os a w b cs h1 h2 h3 h4 (by simp[x8,vz,h5]) (h6.of_le (by simp[xm])) h7;exact⟨e,a',w',e1,.of_steps (zad (stepR_cond hev)) e2⟩
   ·exact(ihn _ _ _ _ h).step (fun _ _ _ _=>stepR_block) (by simp[x8,vz,codeOk]) (by simp[xm])
   ·-- loop
    rename_i body;cases hk:jn T st body with
    |none=>rw[hk]at h;cases h
    |some st1=>
     rw[hk]at h;exact(ylt hk (hL _ _ _ _ _ h)).step (fun _ _ _ _=>stepR_loop) (by simp[x8,vz,codeOk]) (by simp[xm])
   ·rename_i body
    refine(ihn _ _ _ _ h).step (items':= .code body:: .inScope body::k) (fun b a cs w=>step_lone_go (by simp[stepG,stepG.exec,Frame.atR])) (by simp[x8,vz,codeOk]) (by simp[xm])
   ·-- exit
    rename_i id;split at h
    ·rename_i k' hx
     intro ro G0 Os0 w0 r G Os a w b cs h1 h2 h3 h4 h5 h6 h7;simp only[x8,Bool.and_eq_true]at h5;obtain⟨o1,o2⟩:=xa6 hx h5.2;obtain⟨e,a',w',e1,e2⟩:=ihn _ _ _ _ h ro G0 Os0 w0 r G Os a w b cs h1 h2 h3 h4 o1 (h6.of_le (by simpa[xm]using o2)) h7;exact⟨e,a',w',e1,.of_steps (zad (stepR_exit hx)) e2⟩
    ·rename_i hx
     intro ro G0 Os0 w0 r G Os a w b cs h1 h2 h3 h4 h5 h6 h7;exact⟨.exit id,a,w,zng h h4 h7 (.inr (.inr ⟨id,rfl,rfl⟩)),fun k' hk'=>by simp[exitTo]at hk',fun _ _=>⟨k,hx,.refl _⟩⟩
   ·-- region
    rename_i id ops draw;intro ro G0 Os0 w0 r G Os a w b cs h1 h2 h3 h4 h5 h6 h7;simp only[x8,vz,Bool.and_eq_true]at h5;obtain⟨st',hk,f1,f2,f3,hw⟩:=ysp (P:=P) hT hF hC hY h h5.1;have hwp:=hw ro G0 Os0 w0 r G Os a w h4 b k cs (by rw[h1,xax]) (zni ro b.fn) (by intro d hd;rw[fen_depth]at hd;cases hd);obtain⟨e,a1,w1,⟨rfl,hds,G1,Os1,hJ1⟩,harr⟩:=hwp
    have harr':StepsIn (Machine.fenced P Fence.wide) P (lone (b.atR a (.code (.region id ops draw)::k)) cs w) (lone (b.atR a1 k) cs w1):=by
     cases ro with
     |none=>exact harr
     |some l=>exact harr
    rw[←f2]at hJ1;obtain⟨e,a',w',e1,e2⟩:=ihn _ _ _ _ hk ro G0 Os0 w0 r G1 Os1 a1 w1 b cs h1 (h2.trans f1.symm) h3 hJ1 (by rw[f1];exact h5.2) (h6.of_le (by simp[xm])) (by rw[f3];exact h7);rw[f1,f2]at e1;exact⟨e,a',w',e1,.of_steps harr' e2⟩
   ·-- a range over a function
    rename_i f ps as body;obtain⟨hps,h⟩:=xf h
    have cont:∀{own':Own} {S':xb},(∀(ro:Option Nat) (G0:Gh) (Os0:List OG) (w0:World) (r:Loop) (G:Gh) (Os:List OG) (a:Act) (w:World) (b:Frame) (cs:List Frame),b.roundOf=ro→b.fn=st.fn→JS T ro G0 Os0 w0 st.nt r st.ρ st.mem G Os a w→
       (codeOk T st.fn as=true∧codeOk T st.fn body=true)→(∀id,st.fp≤id→G0.R id= .fresh)→own'.fn=st.fn∧own'.nt=st.nt∧(∀c,own'.pending=some c→codeOk T st.fn c=true)∧∃G' Os' a' w',
       StepsIn (Machine.fenced P Fence.wide) P (lone (b.atR a (.code (.rangeFunc f ps as body)::k)) cs w) (lone (b.atR a' ((own'.pending.map Item.code).toList++k)) cs w')∧
       JS T ro G0 Os0 w0 st.nt r (fun t=>lookup t own'.env) ⟨own'.H,own'.Fz,S'⟩ G' Os' a' w')→
      runK ih T rnd n (match own'.pending with|some c=> .code c::k|none=>k) ⟨own'.fn,own'.nt,st.fp,own'.env,own'.H,own'.Fz,S'⟩=some out→
      RunGoal P T rnd (.code (.rangeFunc f ps as body)::k) st out:=by
     intro own' S' hrf h ro G0 Os0 w0 r G Os a w b cs h1 h2 h3 h4 h5 h6 h7;simp only[x8,vz,codeOk,Bool.and_eq_true]at h5;obtain⟨g1,g2,g3,G1,Os1,a1,w1,hst,hJ1⟩:=hrf ro G0 Os0 w0 r G Os a w b cs h1 h2 h4 h5.1 h7
     have h:runK ih T rnd n ((own'.pending.map Item.code).toList++k) ⟨own'.fn,own'.nt,st.fp,own'.env,own'.H,own'.Fz,S'⟩=some out:=by
      cases hp:own'.pending<;>(rw[hp]at h;exact h)
     have hok':x8 T st.fn ((own'.pending.map Item.code).toList++k)=true:=by
      cases hp:own'.pending with
      |none=>exact h5.2
      |some c=>simp[x8,vz,g3 c hp,h5.2]
     have hbg:xm ((own'.pending.map Item.code).toList++k)=xm k:=by cases own'.pending<;>rfl
     rw[←g2]at hJ1;obtain⟨e,a',w',e1,e2⟩:=ihn _ _ _ _ h ro G0 Os0 w0 r G1 Os1 a1 w1 b cs h1 (h2.trans g1.symm) h3 hJ1 (by simp only;rw[g1];exact hok') (h6.of_le (by rw[hbg];simp[xm])) h7;simp only at e1;rw[g1,g2]at e1;exact⟨e,a',w',e1,.of_steps hst e2⟩
    split at h
    ·obtain⟨hnm,h⟩:=xf h
     obtain⟨v1,m2,fp1,r2,h⟩:=zdq _ _ _ _ _ _ _ h;split at h
     ·rename_i own' hlast
      exact cont (fun ro G0 Os0 w0 r G Os a w b cs h1 h2 h4 h5 h7=>ys0 (P:=P) hT hC hps h5 (by simpa using hnm) ⟨_,r2⟩ hlast h4 h7 h1 h2 k cs) h
     ·cases h
    ·obtain⟨fv,m0,fp0,r1,h⟩:=zdq _ _ _ _ _ _ _ h
     obtain⟨hnm,h⟩:=xf h;obtain⟨v1,m2,fp1,r2,h⟩:=zdq _ _ _ _ _ _ _ h;split at h
     ·rename_i own' hlast
      exact cont (fun ro G0 Os0 w0 r G Os a w b cs h1 h2 h4 h5 h7=>ysz (P:=P) hT hC hps h5 ⟨_,r1⟩ (by simpa using hnm) ⟨_,r2⟩ hlast h4 h7 h1 h2 k cs) h
     ·cases h
   ·cases h
  ·exact(ihn _ _ _ _ h).step (fun _ _ _ _=>stepR_inBlock) (by simp[x8]) (by simp[xm])
  ·exact(ihn _ _ _ _ h).step (fun b a cs w=>step_lone_go (by simp[stepG,stepG.exec,Frame.atR])) (by simp[x8]) (by simp[xm])
  ·-- beginRound
   rename_i k;intro ro G0 Os0 w0 r G Os a w b cs h1 h2 h3 h4 h5 h6 h7;obtain⟨hb1,hb2⟩:=h6;simp only[xm]at hb1 hb2;have hk0:xm k=0:=by omega
   obtain⟨hrdy,hsome⟩:=hb2 (by omega);obtain⟨l,hl⟩:=Option.isSome_iff_exists.1 hsome;obtain⟨hrec,_⟩:=h4.rou.ex l hl;have hbr:=run_beginRound (P:=P) hrec hrdy;simp only[x8,Bool.and_eq_true]at h5;obtain⟨e,a',w',e1,e2⟩:=ihn _ _ _ _ h ro G0 Os0 w0 {r with state:= .busy} G Os a (w.putObj l (.loop {r with state:= .busy})) b cs h1 h2 h3 (h4.putRec hl) h5.2 ⟨by omega,fun h=>by omega⟩ h7;obtain⟨G',Os',st',r',jump,x1,x2,x3,x4,x5,x6⟩:=e1.ex;refine⟨e,a',w',⟨G',Os',st',r',jump,x1,x2,x3,?_,x5,x6⟩,.of_steps (zad (stepR_beginRound (by rw[h1,hl]) hbr)) e2⟩;rw[x4]
  ·-- inLoop
   rename_i body k;cases hk:jn T st body with
   |none=>rw[hk]at h;cases h
   |some st1=>
    rw[hk]at h;exact(ylt hk (hL _ _ _ _ _ h)).step (fun _ _ _ _=>stepR_inLoop) (by simp[x8,vz]) (by simp[xm])
  ·cases h
end
section
variable {P:Program} {T:Tab} {ih:Ih}
theorem yxx{fn:Func}{tmps:Array Value}{R:Ending→World→Prop}{G0:Gh}{Os0:List OG}{w0:World}{G:Gh}{Os:List OG}{m:Mem}
  (hend:∀w2,Stp (fun _=>False) G0 Os0 w0 G Os w2→Good T G Os w2 m→∃v,(results fn tmps).run P w2= .ok v w2∧R (.returned v) w2):
  ∀(ds:List Deferred) (w:World),Stp (fun _=>False) G0 Os0 w0 G Os w→Good T G Os w m→DefOk w0.heap.size ds G Os none w→LeavesInM Fence.wide 0 P fn tmps R ds .returning w:=by
 intro ds
 induction ds with
 |nil=>intro w h1 h2 _;exact hend w h1 h2
 |cons d ds ih=>
  intro w h1 h2 h3;obtain⟨D,e1,e2,e3,e4,e5,e6,e7⟩:=h3.mark d (List.mem_cons_self ..);refine⟨by simp,.inl ⟨D,_,e1,run_takeDeferred e3,?_⟩⟩;have hput:∀b,b≠D→(w.putObj D (.deferred none)).heap[b]? =w.heap[b]? :=fun b hb=>World.putObj_heap_other hb;refine ih _ ⟨h1.le,by rw[World.putObj_size];exact h1.size,h1.sig,h1.owns,h1.frn,h1.mem,fun b hb h5 h6 h7=> ?_,h1.ow,h1.oo.trans ⟨rfl,rfl⟩⟩ ⟨?_,?_,?_,h2.sep⟩ ⟨fun d' hd'=> ?_,(List.pairwise_cons.1 h3.apart).2⟩
  ·rw[hput b (by omega)];exact h1.keep b hb h5 h6 h7
  ·exact HeapRel.still (M:=G.M) (R:=G.R) h2.heap (fun _ _ h=>h) fun id g hg=>⟨hput _ fun e=>e4 ⟨id,g,hg,e⟩,rfl⟩
  ·exact MRel.still (M:=G.M) (R:=G.R) h2.mem (fun _=>rfl) fun b c hc=>hput b fun e=>by rw[e,e7]at hc;cases hc
  ·exact h2.stk.still (fun _ _ h=>h) (fun b hb=>hput b fun e=>e5 (e▸hb)) fun _ _=>rfl
  ·obtain⟨D',f1,f2,f3,f4,f5,f6,f7⟩:=h3.mark d' (List.mem_cons_of_mem _ hd')
   refine⟨D',f1,f2,(hput D' fun e=> ?_).trans f3,f4,f5,f6,f7⟩;exact(List.pairwise_cons.1 h3.apart).1 d' hd' D e1 (e▸f1)
abbrev zdc(tmps:Array Value):ResultVar→Sem Value
 | .tmp t=>pure (tmps.getD t Go.undef)
 | .cell a t=>do loadVar t (←asAddr (tmps.getD a Go.undef))
theorem yw9{t:TypeId}{y z:Value}{w:World}(h:(Instr.loadAt t y).run P w= .ok z w):(do loadVar t (←asAddr y):Sem Value).run P w= .ok z w:=by
 cases y with
 |pointer a=>
  cases a with
  |none=>simp[Instr.loadAt,Instr.sureAddr]at h
  |some a=>simpa[Instr.loadAt,Instr.sureAddr,asAddr]using h
 |_=>simp[Instr.loadAt,Instr.sureAddr]at h
theorem ysh(hT:TabOk P T){st:St}:∀{rs:List ResultVar} {acc:List V} {k:List V→Option Out} {r:Out},resultsK T st rs acc k=some r→
  ∃l,k (acc++l)=some r∧∀(G:Gh) (Os:List OG) (w:World) (tmps:Array Value),EnvR G Os st.ρ tmps→HeapRel G T w st.H st.Fz→MRel G T w→∃ys:List Value,(rs.mapM (zdc tmps)).run P w= .ok ys w∧LRelT G Os l ys:=by
 intro rs
 induction rs with
 |nil=>intro acc k r h;exact⟨[],by simpa[resultsK]using h,fun G Os w tmps _ _ _=>⟨[],by simp,rfl,fun i v x hv=>by simp at hv⟩⟩
 |cons rv rs ih=>
  intro acc k r h
  have cons:∀{G:Gh} {Os:List OG} {v:V} {l:List V} {y:Value} {ys:List Value},RelT G Os v y→LRelT G Os l ys→LRelT G Os (v::l) (y::ys):=by
   intro G Os v l y ys h1 h2;refine⟨by simp[h2.1],fun i a b ha hb=> ?_⟩;cases i with
   |zero=>simp at ha hb;subst ha;subst hb;exact h1
   |succ i=>exact h2.2 i a b (by simpa using ha) (by simpa using hb)
  have look:∀{G:Gh} {Os:List OG} {tmps:Array Value} (t:Nat),EnvR G Os st.ρ tmps→RelT G Os (xx st.env t) (tmps.getD t Go.undef):=by
   intro G Os tmps t he;unfold xx;cases hl:lookup t st.env with
   |none=>exact .undef _
   |some v=>exact he t v hl
  cases rv with
  |tmp t=>
   simp only[resultsK]at h;obtain⟨l,hl,hr⟩:=ih h;refine⟨xx st.env t::l,by simpa using hl,fun G Os w tmps he hH hM=> ?_⟩;obtain⟨ys,hy,hrel⟩:=hr G Os w tmps he hH hM;exact⟨tmps.getD t Go.undef::ys,by simp[List.mapM_cons,zdc,hy],cons (look t he) hrel⟩
  |cell a t=>
   simp only[resultsK]at h;obtain⟨v,m,f,hrun,h⟩:=zdq _ _ _ _ _ _ _ h;have hres:Res none (j9 T t (xx st.env a) .ret) ⟨st.H,st.Fz,st.S⟩ v m:=⟨f,hrun⟩;have hy:=ylp hres;obtain⟨v',h',hld⟩:=ylq (P:=P) hT hres;obtain⟨rfl,rfl⟩:=h'.ret;obtain⟨l,hl,hr⟩:=ih h;refine⟨v::l,by simpa using hl,fun G Os w tmps he hH hM=> ?_⟩;obtain⟨ys,hys,hrel⟩:=hr G Os w tmps he hH hM;obtain⟨z,hz,hrz⟩:=hld G w _ ((look a he).rel hy) hH hM;have hz':=yw9 hz;refine⟨z::ys,?_,cons hrz.toT hrel⟩;simp only[List.mapM_cons,zdc,Sem.run_bind];simp only[Sem.run_bind]at hz';rw[hz'];simp[hys]
def zg4(ys:List Value):Value:=match ys with| [y]=>y|ys=> .tuple ys.toArray
theorem ysg{fn:Func}{tmps:Array Value}{w:World}{ys:List Value}(h:(fn.results.toList.mapM (zdc tmps)).run P w= .ok ys w):(results fn tmps).run P w= .ok (zg4 ys) w:=by
 have key:∀f:ResultVar→Sem Value,(∀rv,f rv=zdc tmps rv)→(List.toArray<$>fn.results.toList.mapM f).run P w= .ok ys.toArray w:=by
  intro f hf;have:f=zdc tmps:=funext hf;subst this;simp[h]
 unfold results;rw[Array.mapM_eq_mapM_toList];simp only[Sem.run_bind];rw[key _ (fun rv=>by cases rv<;>rfl)];simp only[Result.andThen_ok,Sem.run_pure];congr 1
 match ys with
 | []=>rfl
 | [y]=>rfl
 |y::z::ys=>simp[zg4]
theorem xh7:∀(args:List V) (i t:Nat) (v:V),lookup t (params i args)=some v→i≤t∧args[t- i]? =some v:=by
 intro args
 induction args with
 |nil=>intro i t v h;simp[params,lookup]at h
 |cons a args ih=>
  intro i t v h;simp only[params,lookup_cons]at h;by_cases hi:i=t
  ·subst hi;simp only[if_true,Option.some.injEq]at h;subst h;exact⟨Nat.le_refl _,by simp⟩
  ·rw[if_neg hi]at h
   obtain⟨h1,h2⟩:=ih (i+1) t v h;refine⟨by omega,?_⟩;rw[show t- i=(t- (i+1))+1 by omega,List.getElem?_cons_succ];exact h2
theorem xga(hT:TabOk P T)(hF:FnsOk P T){ih0:Ih}(hrun:∀items st out,runK ih0 T false qk items st=some out→RunGoal P T false items st out){f:FuncId}{args:List V}{H H':zj}{Fz Fz':Nat}{S S':xb}{v:V}
  (h:(xp T ih0).call f args H Fz S=some (v,H',Fz',S')){G:Gh}{Os:List OG}{w:World}{xs:Array Value}(hx:RelLT G Os args xs)(hg:Good T G Os w ⟨H,Fz,S⟩)(hb:T.byref f=false→H= []∧Fz=0):
  CallsIn Fence.wide 0 P f xs w fun e w'=>∃y G' Os',e= .returned y∧Rel G' v y∧Stp (fun _=>False) G Os w G' Os' w'∧Good T G' Os' w' ⟨H',Fz',S'⟩∧(T.byref f=false→H'= []∧pureV v=true):=by
 simp only[xp]at h;split at h
 ·rename_i fn hfn
  cases hbody:fn.body with
  |none=>rw[hbody]at h;cases h
  |some body=>
  have hcode:=hF.code f fn body hfn hbody;rw[hbody]at h;simp only at h;obtain⟨hle,h⟩:=xf h;have hle:=Nat.le_of_ble_eq_true hle;split at h
  ·rename_i v0 H0 Fz0 S0 hr
   simp only[Option.some.injEq,Prod.mk.injEq]at h;obtain⟨rfl,rfl,rfl,rfl⟩:=h;have hxl:xs.size=args.length:=by have:=hx.1;simpa using this
   have hgoal:=hrun _ _ _ hr;refine⟨trivial,fun cs hroom=> ?_⟩;let b:Frame:={(default:Frame)with fn:=f,kind:= .normal,roundOf:=none};let a0:Act:={tmps:=xs++Array.replicate (fn.ntmps- xs.size) Go.undef,defers:= []}
   have henter:Frame.enter P f xs .normal=b.atR a0 [.code body]:=by
    simp[Frame.enter,Frame.atR,hT.fn f fn hfn,hbody,b,a0]
   have hJ:JS T none G Os w fn.ntmps default (fun t=>lookup t (params 0 args)) ⟨H,Fz,S⟩ G Os a0 w:=by
    refine⟨.refl _ G Os w,fun t v hv=> ?_,by simp[a0];omega,hg,⟨fun d hd=>(by cases hd),.nil⟩,⟨fun l hl=>(by cases hl)⟩⟩;obtain⟨_,h2⟩:=xh7 args 0 t v hv;simp only[Nat.sub_zero]at h2;have ht:t<args.length:=(List.getElem?_eq_some_iff.1 h2).1;have ht':t<xs.size:=by omega
    have e1:a0.tmps.getD t Go.undef=xs[t]:=by
     simp only[a0,Array.getD_eq_getD_getElem?];rw[Array.getElem?_append_left ht'];simp[ht']
    rw[e1];exact hx.2 t v _ h2 (by simp[ht'])
   obtain⟨e,a1,w1,hend,harr⟩:=hgoal none G Os w default G Os a0 w b cs rfl rfl rfl hJ (by simp[x8,vz,hcode]) ⟨by simp[xm],fun h=>by simp[xm]at h⟩ (fun id hid=>hg.heap.out id (List.getElem?_eq_none hid));rw[←henter]at harr
   obtain⟨G1,Os1,st',r',jump,hJ1,hfn1,hnt1,_,hfin,hex⟩:=hend.ex
      -- what the end hands back
   have hret:(jump=none∨jump=some .ret)∧∃fn',T.fn st'.fn=some fn'∧(resultsK T st' fn'.results.toList [] fun vs=>need (!z9 vs)<|
     match T.byref st'.fn with
     |true=>some (.ret (wv vs),st'.H,st'.Fz,st'.S)
     |false=>(frzP T zb9 (wv vs) .ret).go none st'.H st'.Fz st'.S .none fun v' _ _ _ _=>some (.ret v',[],0,st'.S))=some (.ret v0,H0,Fz0,S0):=by
    simp only[zdg]at hfin;split at hfin
    ·split at hfin
     ·rename_i fn' hfn';exact⟨.inl rfl,fn',hfn',hfin⟩
     ·cases hfin
    ·split at hfin
     ·rename_i fn' hfn';exact⟨.inr rfl,fn',hfn',hfin⟩
     ·cases hfin
    ·cases hfin
   obtain⟨hjump,fn',hfn',hres⟩:=hret;rw[hfn1,hfn]at hfn';cases hfn';rw[hfn1]at hres;obtain⟨l,hl,hread⟩:=ysh (P:=P) hT hres;simp only[List.nil_append]at hl;obtain⟨hyl,hl⟩:=xf hl
   have hyl:=za8.1 (by simpa using hyl)
      -- at the world in which the frame leaves
   have leave:∀w2,Stp (fun _=>False) G Os w G1 Os1 w2→Good T G1 Os1 w2 st'.mem→∃y,(results fn a1.tmps).run P w2= .ok y w2∧∃y' G' Os',(Ending.returned y= .returned y')∧Rel G' v0 y'∧Stp (fun _=>False) G Os w G' Os' w2∧Good T G' Os' w2 ⟨H0,Fz0,S0⟩∧(T.byref f=false→H0= []∧pureV v0=true):=by
    intro w2 hs2 hg2;obtain⟨ys,hys,hrel⟩:=hread G1 Os1 w2 a1.tmps hJ1.env hg2.heap hg2.mem;have hrun2:=ysg hys;have hlr:LRel G1 l ys:=⟨hrel.1,fun i u y hu hy=>(hrel.2 i u y hu hy).rel (hyl u (List.mem_of_getElem? hu))⟩
    have hv:Rel G1 (wv l) (zg4 ys):=by
     match l,ys,hlr with
     | [],[],_=>exact LRel.toTup (a:= #[]) (LRel.nil G1)
     | [u],[y],h=>exact h.2 0 u y rfl rfl
     |u::u'::l,y::y'::ys,h=>exact LRel.toTup (a:=(y::y'::ys).toArray) (by simpa using h)
     | [],_::_,h=>exact absurd h.1 (by simp)
     | [_],[],h=>exact absurd h.1 (by simp)
     | [_],_::_::_,h=>exact absurd h.1 (by simp)
     |_::_::_,[],h=>exact absurd h.1 (by simp)
     |_::_::_,[_],h=>exact absurd h.1 (by simp)
    refine⟨_,hrun2,zg4 ys,?_⟩;cases hbr:T.byref f with
    |true=>
     rw[hbr]at hl;simp only[Option.some.injEq,Prod.mk.injEq,Fin.ret.injEq]at hl;obtain⟨rfl,rfl,rfl,rfl⟩:=hl;exact⟨G1,Os1,rfl,hv,hs2,hg2,fun h=>by cases h⟩
    |false=>
     rw[hbr]at hl;obtain⟨v',m2,f2,hrun3,hl⟩:=zdq _ _ _ _ _ _ _ hl;simp only[Option.some.injEq,Prod.mk.injEq,Fin.ret.injEq]at hl;obtain⟨rfl,rfl,rfl,rfl⟩:=hl;obtain⟨v'',m3,h3,hS3,_,hf3⟩:=zne zb9 _ _ _ _ _ (show Res none _ ⟨st'.H,st'.Fz,st'.S⟩ _ m2 from⟨f2,hrun3⟩);obtain⟨rfl,rfl⟩:=h3.ret;obtain⟨G2,f4,hpu,hr2⟩:=hf3 G1 w2 hg2.heap hg2.mem;obtain⟨rfl,rfl⟩:=hb hbr;have hfresh:∀id,G.R id= .fresh:=fun id=>hg.heap.out id (by simp);have hs3:=hs2.trans (f4.step.stp Os1);refine⟨G2.bare,Os1,rfl,Rel.bare (hr2 _ hv) hpu,⟨⟨hs3.le.M,fun id hid=>absurd (hfresh id) hid⟩,hs3.size,hs3.sig,fun b hb=>absurd hb yx,hs3.frn,hs3.mem,hs3.keep,hs3.ow,hs3.oo⟩,?_,fun _=>⟨rfl,hpu⟩⟩;refine⟨zhr G2 w2,f4.mem.bare,?_,fun b hb=>absurd hb yx⟩;have hstk:=(hg2.local f4.step f4.heap f4.mem hS3).stk;rw[hS3]at hstk;exact hstk
   have hlv:LeavesInM Fence.wide 0 P fn a1.tmps (fun e w'=>∃y G' Os',e= .returned y∧Rel G' v0 y∧Stp (fun _=>False) G Os w G' Os' w'∧Good T G' Os' w' ⟨H0,Fz0,S0⟩∧(T.byref f=false→H0= []∧pureV v0=true)) a1.defers .returning w1:=
    yxx (m:=st'.mem) (fun w2 h1 h2=>leave w2 h1 h2) a1.defers w1 (hJ1.stp.weaken fun b hb=>by cases hb) hJ1.good hJ1.defs
   have hex':e= .normal∨e= .ret:=by
    rcases hex with⟨rfl,_⟩|⟨rfl,_⟩|⟨id,rfl,hj⟩
    ·exact .inl rfl
    ·exact .inr rfl
    ·rcases hjump with h|h
     ·rw[hj]at h;cases h
     ·rw[hj]at h;cases h
   rcases hex' with rfl|rfl
   ·obtain⟨e',w'',fr',hR,hs,hfn2,hl2⟩:=leaves_stepsInM (F:=Fence.wide) (n:=0) a1.defers .returning w1 {b.atR a1 []with mode:= .returning} cs rfl rfl rfl (hT.fn f fn hfn) rfl trivial hroom hlv
    exact⟨e',w'',fr',hR,ComesIn.of_steps (StepsIn.trans harr (zad (stepR_end rfl))) hs,hfn2,hl2⟩
   ·obtain⟨todo,hs0⟩:=harr.1 rfl
    obtain⟨e',w'',fr',hR,hs,hfn2,hl2⟩:=leaves_stepsInM (F:=Fence.wide) (n:=0) a1.defers .returning w1 {b.atR a1 todo with mode:= .returning} cs rfl rfl rfl (hT.fn f fn hfn) rfl trivial hroom hlv;exact⟨e',w'',fr',hR,ComesIn.of_steps hs0 hs,hfn2,hl2⟩
  ·cases h
 ·cases h
end
section
variable {P:Program} {T:Tab} {ih:Ih}
theorem zoq{α:Type}{A B:List α}{o:α}(e:Nat){x:α}(h:(A++o::B)[e]? =some x):(e<A.length∧A[e]? =some x)∨(e=A.length∧x=o)∨(A.length<e∧B[e- A.length- 1]? =some x):=by
 by_cases h1:e<A.length
 ·rw[List.getElem?_append_left h1]at h;exact .inl ⟨h1,h⟩
 ·rw[List.getElem?_append_right (by omega)]at h
  by_cases h2:e=A.length
  ·subst h2;simp at h;exact .inr (.inl ⟨rfl,h.symm⟩)
  ·rw[show e- A.length=(e- A.length- 1)+1 by omega,List.getElem?_cons_succ]at h
   exact .inr (.inr ⟨by omega,h⟩)
theorem ytj{G:Gh}{Os:List OG}{nt:Nat}{ps:List Nat}{args:List V}{xs:Array Value}{env:Den.Env}{tmps:Array Value}(hps:zac nt ps=true)(hl:ps.length=args.length)(hx:RelLT G Os args xs)
  (he:EnvR G Os (fun t=>lookup t env) tmps)(hnt:tmps.size=nt):
  ((ps.toArray.zip xs).foldl (fun tmps (t,a)=>tmps.setIfInBounds t a) tmps).size=nt∧EnvR G Os (fun t=>lookup t (ps.zip args++env)) ((ps.toArray.zip xs).foldl (fun tmps (t,a)=>tmps.setIfInBounds t a) tmps):=by
 have hxl:xs.toList.length=args.length:=hx.1
 have efold:(ps.toArray.zip xs).foldl (fun tmps (t,a)=>tmps.setIfInBounds t a) tmps=(ps.zip xs.toList).foldl (fun tmps (p:Nat×Value)=>tmps.setIfInBounds p.1 p.2) tmps:=by
  rw[←Array.foldl_toList];simp
 rw[efold]
 have set1:∀(tmps:Array Value) (env:Den.Env) (t:Nat) (v:V) (y:Value),EnvR G Os (fun t=>lookup t env) tmps→t<tmps.size→RelT G Os v y→EnvR G Os (fun u=>lookup u ((t,v)::env)) (tmps.setIfInBounds t y):=by
  intro tmps env t v y he ht hv u v' hu;simp only[lookup_cons]at hu;by_cases htu:t=u
  ·subst htu
   simp only[if_true,Option.some.injEq]at hu;subst hu;simp[Array.getD_eq_getD_getElem?,ht];exact hv
  ·rw[if_neg htu]at hu
   have:=he u v' hu;simpa[Array.getD_eq_getD_getElem?,Array.getElem?_setIfInBounds_ne htu]using this
 have hx':LRelT G Os args xs.toList:=hx;clear efold hxl hx;generalize xs.toList=zs at hx';cases ps with
 |nil=>
  have:args= []:=List.eq_nil_of_length_eq_zero (by simpa using hl.symm);subst this;exact⟨hnt,he⟩
 |cons t ps=>
  cases args with
  |nil=>simp at hl
  |cons v args=>
   obtain⟨y,zs,rfl,hv,hx'⟩:=hx'.head;cases ps with
   |nil=>
    simp only[zac]at hps;have ht:t<nt:=Nat.le_of_ble_eq_true hps;have:args= []:=List.eq_nil_of_length_eq_zero (by simpa using hl.symm);subst this;simp only[List.zip_cons_cons,List.zip_nil_left,List.foldl_cons,List.foldl_nil,List.cons_append,List.nil_append];exact⟨by simp[hnt],set1 tmps env t v y he (by omega) hv⟩
   |cons u ps=>
    cases args with
    |nil=>simp at hl
    |cons v' args=>
     obtain⟨y',zs,rfl,hv',hx'⟩:=hx'.head;cases ps with
     |nil=>
      simp only[zac,Bool.and_eq_true,Bool.not_eq_true']at hps;obtain⟨h1,h2,h3⟩:=hps;have ht:t<nt:=Nat.le_of_ble_eq_true h1;have hu:u<nt:=Nat.le_of_ble_eq_true h2;have hne:t≠u:=Nat.ne_of_beq_eq_false h3;have:args= []:=List.eq_nil_of_length_eq_zero (by simpa using hl.symm);subst this;simp only[List.zip_cons_cons,List.zip_nil_left,List.foldl_cons,List.foldl_nil,List.cons_append,List.nil_append];refine⟨by simp[hnt],?_⟩;rw[Array.setIfInBounds_comm _ _ hne];exact set1 _ _ t v y (set1 tmps env u v' y' he (by omega) hv') (by simp;omega) hv
     |cons _ _=>simp[zac]at hps
theorem ytq{own own':Own}{H:zj}{Fz:Nat}{jump:Option Code}(h:zaq T own H Fz jump=some own'){M:Nat→Option FC}{R:Nat→RS}{Os:List OG}{w:World}{tmps:Array Value}
  (hh:HeapRel ⟨M,R⟩ T w H Fz)(he:EnvR ⟨M,R⟩ Os (fun t=>lookup t own.env) tmps):
  ∃E' H' F' R',own'={own with env:=E',H:=H',Fz:=F',done:=jump.isSome,pending:=jump}∧HeapRel ⟨M,R'⟩ T w H' F'∧EnvR ⟨M,R'⟩ Os (fun t=>lookup t E') tmps∧
   (∀b,(⟨M,R'⟩:Gh).owns b→(⟨M,R⟩:Gh).owns b)∧∀id,id<own.fp→R' id=R id:=by
 unfold zaq at h;split at h
 ·rename_i ks _
  cases hq:gc ks ⟨own.fn,own.nt,own.fp,own.env,H,Fz,[]⟩with
  |none=>rw[hq]at h;cases h
  |some st=>
   rw[hq]at h;obtain⟨ids,rfl,hc,htk,hroots⟩:=yl8 hq;simp only[Option.bind_some,Option.some.injEq]at h;refine⟨_,_,_,((⟨M,R⟩:Gh).pickR ids).R,h.symm,zm5 hh hc,fun t v hv=> ?_,fun b hb=>zbf hb,fun id hlt=> ?_⟩
   ·simp only[vl]at hv
    obtain⟨h1,rfl⟩:=yln hv
    have hrel:RelT ⟨M,R⟩ Os (xx own.env t) (tmps.getD t Go.undef):=by
     unfold xx;cases hl:lookup t own.env with
     |none=>exact .undef _
     |some v=>exact he t v hl
    refine RelT.ren (G:=⟨M,R⟩) (G2:=(⟨M,R⟩:Gh).pickR ids) (g:=idx ids) (fun b c hc=>hc) hrel fun id hid=>zg2 (hroots id ?_);exact zat (List.mem_map.2 ⟨t,h1,rfl⟩) hid
   ·have hget:ids[id]? =some id:=by
     have h1:(ids.take own.fp)[id]? =(List.range own.fp)[id]? :=by rw[htk]
     rw[List.getElem?_take,if_pos hlt,List.getElem?_range hlt]at h1;exact h1
    simp[Gh.pickR,hget]
 ·cases h
  exact⟨own.env,_,_,R,rfl,hh,he,fun b hb=>hb,fun _ _=>rfl⟩
theorem yo1(hT:TabOk P T){ih0:Ih}(hrun:∀items st out,runK ih0 T true qk items st=some out→RunGoal P T true items st out){d:Nat}{args:List V}{S S2:xb}{bv:Bool}
  (h:(xp T ih0).yld d args S=some (bv,S2)){G:Gh}{Os:List OG}{w:World}{H:zj}{Fz:Nat}{xs:Array Value}(hx:RelLT G Os args xs)(hpu:pureL args=true)(hyl:z9 args=false)(hg:Good T G Os w ⟨H,Fz,S⟩):
  ∃O r,Os[d]? =some O∧w.heap[O.l]? =some (.loop r)∧xs.size=r.params.size∧
   RoundIn Fence.wide 0 P O.l r.fn ((r.params.zip xs).foldl (fun tmps (t,a)=>tmps.setIfInBounds t a) r.tmps) r.assign r.body w fun e w'=>∃G' Os',e= .returned (.bool bv)∧Stp (fun _=>False) G Os w G' Os' w'∧Good T G' Os' w' ⟨H,Fz,S2⟩:=by
 simp only[xp]at h;split at h
 ·rename_i own hown
  split at h
  ·cases h
  ·rename_i hdone
   obtain⟨hpl,h⟩:=xf h;have hpl:=Nat.eq_of_beq_eq_true hpl;split at h
   ·rename_i jump H1 Fz1 S1 hr
    obtain⟨own',hoe,h⟩:∃own',zaq T own H1 Fz1 jump=some own'∧some (jump.isNone,S1++(own'::S.drop (d+1)))=some (bv,S2):=by
     cases hq:zaq T own H1 Fz1 jump with
     |none=>rw[hq]at h;cases h
     |some o=>rw[hq]at h;exact⟨o,rfl,h⟩
    simp only[Option.some.injEq,Prod.mk.injEq]at h;obtain⟨rfl,rfl⟩:=h;have hgoal:=hrun _ _ _ hr;have hdS:d<S.length:=(List.getElem?_eq_some_iff.1 hown).1;have hlenS:S.length=Os.length:=hg.stk.len
    have hdO:d<Os.length:=by omega
        -- the owner
    obtain⟨O,hO⟩:∃O,Os[d]? =some O:=⟨_,List.getElem?_eq_getElem hdO⟩;have hor:=hg.stk.own d own O hown hO;obtain⟨D,hrec⟩:=hor.lrec;rw[hdone]at hrec;simp only[Bool.false_eq_true,if_false]at hrec;have hAl:(Os.take d).length=d:=by simp;omega
    have hsplit:Os=Os.take d++O::Os.drop (d+1):=by
     have e1:=List.drop_eq_getElem_cons hdO;rw[(List.getElem?_eq_some_iff.1 hO).2]at e1;rw[←e1,List.take_append_drop]
    have hSl:(S.take d).length=d:=by simp;omega
    have hxlen:xs.size=args.length:=by have:=hx.1;simpa using this
    refine⟨O,_,hO,hrec,by simp[hxlen,hpl],trivial,fun c cs hroom=> ?_⟩;simp only;let r0:Loop:={state:= .ready,pending:=own.pending,fn:=own.fn,tmps:=O.tmps,params:=own.ps.toArray,assign:=own.assign,body:=own.body,defers:=D};let Gr:Gh:=⟨G.M,O.R⟩;have hfO:∀b,O.has b→frn Os b:=fun b hb=>⟨O,List.mem_of_getElem? hO,hb⟩;have hfA:∀b,frn (Os.take d) b→frn Os b:=fun b ⟨O1,h1,h2⟩=>⟨O1,List.mem_of_mem_take h1,h2⟩;have hGrO:∀b,Gr.owns b→O.has b:=fun b hb=> .inr hb
    have hdisA:∀b,frn (Os.take d) b→O.has b→False:=by
     rintro b ⟨O1,h1,h2⟩ hb;obtain⟨e,he,rfl⟩:=List.mem_iff_getElem.1 h1;have he':e<d:=by simp at he;omega
     have h3:Os[e]? =some (Os.take d)[e]:=by
      have:=List.getElem?_eq_getElem he;rw[List.getElem?_take,if_pos he']at this;exact this
     have:=hg.stk.dis e d _ O b h3 hO h2 hb;omega
    have hMl:∀b c,G.M b=some c→b≠O.l:=by
     rintro b c hc rfl;obtain⟨o,hcell,hob⟩:=hg.mem.mem _ c hc;rw[hcell]at hrec;cases hrec;cases c with
     |cells c=>obtain⟨e,fr,h⟩:=hob;cases h
     |map es k=>cases hob
    have hMln:G.M O.l=none:=by
     cases hq:G.M O.l with
     |none=>rfl
     |some c=>exact absurd rfl (hMl _ c hq)
        -- the arguments, in the owner's eyes
    have hxr:RelLT Gr (Os.take d) args xs:=⟨hx.1,fun i v y hv hy=>(Rel.pure (G:=G) (G':=Gr) (fun _ _ h=>h) ((hx.2 i v y hv hy).rel (za8.1 hyl v (List.mem_of_getElem? hv))) (pureL_iff.1 hpu v (List.mem_of_getElem? hv))).toT⟩;obtain⟨hts,hte⟩:=ytj (G:=Gr) (Os:=Os.take d) hor.ps hpl hxr hor.env hor.nt;let a0:Act:={tmps:=(own.ps.toArray.zip xs).foldl (fun tmps (t,a)=>tmps.setIfInBounds t a) O.tmps,defers:= []};let b:Frame:={(default:Frame)with fn:=own.fn,kind:= .normal,roundOf:=some O.l}
    have hb0:Frame.round O.l own.fn a0.tmps own.assign own.body .normal=b.atR a0 [.code own.assign,.beginRound,.code own.body]:=by
     simp[Frame.round,Frame.atR,b,a0]
    have hgr:Good T Gr (Os.take d) w ⟨own.H,own.Fz,S.take d⟩:=by
     refine⟨hor.heap,MRel.still (M:=G.M) (R:=G.R) hg.mem (fun _=>rfl) fun _ _ _=>rfl,⟨by rw[hSl,hAl],fun e own1 O1 h1 h2=> ?_,fun e f O1 O2 b h1 h2 hb1 hb2=> ?_⟩,fun b hb hf=>hdisA b hf (hGrO b hb)⟩
     ·have he:e<d:=by have:=(List.getElem?_eq_some_iff.1 h2).1;simp at this;omega
      rw[List.getElem?_take,if_pos he]at h1 h2;rw[List.take_take,Nat.min_eq_left (by omega)];exact hg.stk.own e own1 O1 h1 h2
     ·have he:e<d:=by have:=(List.getElem?_eq_some_iff.1 h1).1;simp at this;omega
      have hf:f<d:=by have:=(List.getElem?_eq_some_iff.1 h2).1;simp at this;omega
      rw[List.getElem?_take,if_pos he]at h1;rw[List.getElem?_take,if_pos hf]at h2;exact hg.stk.dis e f O1 O2 b h1 h2 hb1 hb2
    have hJ:JS T (some O.l) Gr (Os.take d) w own.nt r0 (fun t=>lookup t (own.ps.zip args++own.env)) ⟨own.H,own.Fz,S.take d⟩ Gr (Os.take d) a0 w:=by
     refine⟨.refl _ _ _ _,hte,hts,hgr,⟨fun d hd=>(by cases hd),.nil⟩,⟨fun l hl=> ?_⟩⟩;simp only[Option.some.injEq]at hl;subst hl;exact⟨hrec,fun⟨id,g,hid,hb⟩=>hor.free id g hid hb,fun hf=>hdisA _ hf (.inl rfl),hMln⟩
    obtain⟨e,a1,w1,hend,harr⟩:=hgoal (some O.l) Gr (Os.take d) w r0 Gr (Os.take d) a0 w b (c::cs) rfl rfl rfl hJ (by simp[x8,vz,hor.code.1,hor.code.2]) ⟨by simp[xm],fun _=>⟨rfl,rfl⟩⟩ (fun id hid=>hor.heap.out id (List.getElem?_eq_none hid));rw[←hb0]at harr;obtain⟨G1,Os1,st',r',jump',hJ1,hfn1,hnt1,hr',hfin,hex⟩:=hend.ex;simp only[zdg,Option.some.injEq,Prod.mk.injEq,Fin.round.injEq]at hfin;obtain⟨rfl,rfl,rfl,rfl⟩:=hfin;obtain⟨hrec1,hno1,hnf1,hMn1⟩:=hJ1.rou.ex O.l rfl;have hend2:=run_endRound (P:=P) jump' hrec1
    obtain⟨E2,H2,F2,R2,rfl,hh2,he2,hown2,hlow2⟩:=ytq (Os:=Os1) (M:=G1.M) (R:=G1.R) (w:=w1) hoe hJ1.good.heap ((EnvR.mono (G:=Gr) (G':=⟨G1.M,G1.R⟩) hJ1.stp.le hor.env).sig hJ1.stp.sig)
        -- the machine's steps
    have hsteps:StepsIn (Machine.fenced P Fence.wide) P (lone (Frame.round O.l own.fn a0.tmps own.assign own.body .normal) (c::cs) w) (lone (c.finish (.bool jump'.isNone)) cs (w1.putObj O.l (.loop {r' with state:=if jump'.isNone=true then .ready else .done,pending:=jump'}))):=by
     rcases hex with⟨rfl,rfl⟩|⟨rfl,rfl⟩|⟨id,rfl,rfl⟩
     ·exact StepsIn.trans harr (zad (stepR_round_end rfl rfl hend2))
     ·obtain⟨k1,hs⟩:=harr.2 rfl
      exact StepsIn.trans hs (zad (stepR_round_ret rfl rfl hend2))
     ·obtain⟨k1,hk1,hs⟩:=harr.2 rfl (by simp[exitTo])
      exact StepsIn.trans hs (zad (stepR_round_exit rfl rfl hk1 hend2))
    refine⟨.returned (.bool jump'.isNone),_,⟨⟨G1.M,G.R⟩,Os1++⟨R2,O.l,O.tmps,O.fn,O.low⟩::Os.drop (d+1),rfl,?_⟩,hsteps⟩
        -- what is told behind it
    have hA1:Os1.length=d:=by have:=congrArg List.length hJ1.stp.sig;simp at this;omega
    have hS1:st'.S.length=d:=by have:=hJ1.good.stk.len;rw[hA1]at this;exact this
    have hst:=hJ1.stp;have hput:∀b o,b≠O.l→(w1.putObj O.l o).heap[b]? =w1.heap[b]? :=fun b o hb=>World.putObj_heap_other hb;have hlt1:O.l<w1.heap.size:=(Array.getElem?_eq_some_iff.1 hrec1).1
    have hwl:∀b,frn Os b→b<w.heap.size:=fun b hb=>hg.stk.lt hb
        -- blocks that no one of them has
    have hkeep:∀b,b<w.heap.size→¬O.has b→¬frn (Os.take d) b→∀o,(w1.putObj O.l o).heap[b]? =w.heap[b]? :=by
     intro b hb h1 h2 o;have hbl:b≠O.l:=fun e=>h1 (.inl e);rw[hput b o hbl,hst.keep b hb (fun h=>h1 (hGrO b h)) h2 (fun e=>hbl (by simpa using e.symm))]
    have hMs:∀b,b<w.heap.size→¬O.has b→¬frn (Os.take d) b→G1.M b=G.M b:=fun b hb h1 h2=>za4 hst (fun h=>h1 (hGrO b h)) h2 hb
    have hole:OLe w.heap.size O ⟨R2,O.l,O.tmps,O.fn,O.low⟩:=by
     refine⟨rfl,fun id hlt hid=> ?_,fun b hb=> ?_,rfl⟩
     ·show R2 id≠ .fresh∧∀g,R2 id= .live g→O.R id= .live g
      rw[hlow2 id (by rw[hor.low];exact hlt)];exact hst.le.R id hid
     rcases hb with hb|hb
     ·exact .inl (.inl hb)
     ·rcases hst.owns b (hown2 b hb)with h|h
      ·exact .inl (hGrO b h)
      ·exact .inr h
    have hmid:∀(e:Nat) O2,Os[e]? =some O2→(e<d∧(Os.take d)[e]? =some O2)∨(e=d∧O2=O)∨(d<e∧(Os.drop (d+1))[e- d- 1]? =some O2):=by
     intro e O2 h;rw[hsplit]at h;have:=zoq e h;rw[hAl]at this;exact this
    have hmid':∀(e:Nat) O2,(Os1++⟨R2,O.l,O.tmps,O.fn,O.low⟩::Os.drop (d+1))[e]? =some O2→(e<d∧Os1[e]? =some O2)∨(e=d∧O2=⟨R2,O.l,O.tmps,O.fn,O.low⟩)∨(d<e∧Os[e]? =some O2):=by
     intro e O2 h;have:=zoq e h;rw[hA1]at this;rcases this with h|h|⟨h1,h2⟩
     ·exact .inl h
     ·exact .inr (.inl h)
     ·refine .inr (.inr ⟨h1,?_⟩)
      rw[List.getElem?_drop]at h2;rw[←h2];congr 1;omega
    have hmidS:∀(e:Nat) own2,(st'.S++{own with env:=E2,H:=H2,Fz:=F2,done:=jump'.isSome,pending:=jump'}::S.drop (d+1))[e]? =some own2→(e<d∧st'.S[e]? =some own2)∨(e=d∧own2={own with env:=E2,H:=H2,Fz:=F2,done:=jump'.isSome,pending:=jump'})∨(d<e∧S[e]? =some own2):=by
     intro e own2 h;have:=zoq e h;rw[hS1]at this;rcases this with h|h|⟨h1,h2⟩
     ·exact .inl h
     ·exact .inr (.inl h)
     ·refine .inr (.inr ⟨h1,?_⟩)
      rw[List.getElem?_drop]at h2;rw[←h2];congr 1;omega
    have hsig:(Os1++(⟨R2,O.l,O.tmps,O.fn,O.low⟩:OG)::Os.drop (d+1)).map OG.sig=Os.map OG.sig:=by
     conv=>rhs;rw[hsplit]
     rw[List.map_append,List.map_append,List.map_cons,List.map_cons,hst.sig];rfl
    have how:OwLe w.heap.size Os (Os1++⟨R2,O.l,O.tmps,O.fn,O.low⟩::Os.drop (d+1)):=by
     intro e O1 O2 h1 h2;rcases hmid' e O2 h2 with⟨he,h2⟩|⟨rfl,rfl⟩|⟨he,h2⟩
     ·exact hst.ow e O1 O2 (by rw[List.getElem?_take,if_pos he];exact h1) h2
     ·rw[hO]at h1;cases h1;exact hole
     ·rw[h1]at h2;cases h2;exact .refl _ _
    have hfrn:∀b,frn (Os1++(⟨R2,O.l,O.tmps,O.fn,O.low⟩:OG)::Os.drop (d+1)) b→frn Os b∨w.heap.size≤b:=by
     rintro b ⟨O2,hO2,hb⟩;obtain⟨e,he,rfl⟩:=List.mem_iff_getElem.1 hO2;have h2:=List.getElem?_eq_getElem he;have heO:e<Os.length:=by have:=congrArg List.length hsig;simp at this he⊢;omega
     have h1:=List.getElem?_eq_getElem heO;rcases(how e _ _ h1 h2).has b hb with h|h
     ·exact .inl ⟨_,List.getElem_mem heO,h⟩
     ·exact .inr h
    have hstp:Stp (fun _=>False) G Os w ⟨G1.M,G.R⟩ (Os1++⟨R2,O.l,O.tmps,O.fn,O.low⟩::Os.drop (d+1)) (w1.putObj O.l (.loop {r' with state:=if jump'.isNone=true then .ready else .done,pending:=jump'})):=by
     refine⟨⟨hst.le.M,fun id hid=>⟨hid,fun g hg=>hg⟩⟩,by rw[World.putObj_size];exact hst.size,hsig,fun b hb=> .inl hb,hfrn,fun b c hc=> ?_,fun b hb h1 h2 _=>hkeep b hb (fun h=>h2 (hfO b h)) (fun h=>h2 (hfA b h)) _,how,hst.oo.trans ⟨rfl,rfl⟩⟩;rcases hst.mem b c hc with h|h|h|h
     ·exact .inl h
     ·exact .inr (.inr (.inl (hfO b (hGrO b h))))
     ·exact .inr (.inr (.inl (hfA b h)))
     ·exact .inr (.inr (.inr h))
    have hsepG:∀b,G.owns b→¬O.has b∧¬frn (Os.take d) b∧b<w.heap.size:=fun b hb=>⟨fun h=>hg.sep b hb (hfO b h),fun h=>hg.sep b hb (hfA b h),hg.heap.lt hb⟩;refine⟨hstp,?_,?_,⟨?_,fun e own2 O2 h1 h2=> ?_,fun e f O1 O2 b h1 h2 hb1 hb2=> ?_⟩,fun b hb hf=> ?_⟩
    ·exact HeapRel.still (M:=G.M) (R:=G.R) hg.heap hst.le.M fun id g hid=>by
      obtain⟨s1,s2,s3⟩:=hsepG g.blk ⟨id,g,hid,rfl⟩;exact⟨hkeep _ s3 s1 s2 _,hMs _ s3 s1 s2⟩
    ·exact MRel.still (M:=G1.M) (R:=G1.R) hJ1.good.mem (fun _=>rfl) fun b c hc=>hput b _ fun e=>by rw[e,hMn1]at hc;cases hc
    ·have e1:(Os.drop (d+1)).length=Os.length- (d+1):=by simp
     have e2:(S.drop (d+1)).length=S.length- (d+1):=by simp
     have e3:st'.mem.S.length=d:=hS1;simp only[List.length_append,List.length_cons,e1,e2,hA1,hS1];omega
    ·-- the owners
     rcases hmidS e own2 h1 with⟨he,h1⟩|⟨rfl,rfl⟩|⟨he,h1⟩
     ·rcases hmid' e O2 h2 with⟨_,h2⟩|⟨rfl,_⟩|⟨he',_⟩
      ·rw[List.take_append_of_le_length (by omega)]
       have h9:=hJ1.good.stk.own e own2 O2 h1 h2;exact h9.still rfl (fun _ _ h=>h) (fun b hb=>hput b _ fun e=>hnf1 (e▸⟨O2,List.mem_of_getElem? h2,hb⟩)) fun _ _=>rfl
      ·omega
      ·omega
     ·rcases hmid' _ O2 h2 with⟨he,_⟩|⟨_,rfl⟩|⟨he,_⟩
      ·omega
      ·have etk:(Os1++(⟨R2,O.l,O.tmps,O.fn,O.low⟩:OG)::Os.drop (e+1)).take e=Os1:=by
        rw[←hA1];simp
       rw[etk];refine⟨⟨D,?_⟩,?_,hor.nt,hor.ps,hor.code,hor.fn,fun c hc=> ?_,?_,fun id g hid hbe=>hno1 (hown2 _ ⟨id,g,hid,hbe⟩),hor.low⟩
       ·rw[World.putObj_heap_same hlt1,hr']
        cases jump'<;>rfl
       ·exact he2
       ·simp only at hc
        subst hc;rcases hex with⟨_,hj⟩|⟨_,hj⟩|⟨id,_,hj⟩
        ·cases hj
        ·cases hj;rfl
        ·cases hj;rfl
       ·exact HeapRel.still (M:=G1.M) (R:=R2) hh2 (fun _ _ h=>h) fun id g hid=>⟨hput _ _ fun e=>hno1 (hown2 _ ⟨id,g,hid,e⟩),rfl⟩
      ·omega
     ·rcases hmid' e O2 h2 with⟨he',_⟩|⟨rfl,_⟩|⟨_,h2⟩
      ·omega
      ·omega
      ·have h9:=hg.stk.own e own2 O2 h1 h2
       have hot:∀b,O2.has b→¬O.has b∧¬frn (Os.take d) b∧b<w.heap.size:=by
        intro b hb;refine⟨fun h=> ?_,?_,h9.lt hb⟩
        ·have:=hg.stk.dis e d O2 O b h2 hO hb h;omega
        ·rintro⟨O3,h3,hb3⟩
         obtain⟨f,hf,rfl⟩:=List.mem_iff_getElem.1 h3;have hfd:f<d:=by simp at hf;omega
         have h4:Os[f]? =some (Os.take d)[f]:=by
          have:=List.getElem?_eq_getElem hf;rw[List.getElem?_take,if_pos hfd]at this;exact this
         have:=hg.stk.dis e f O2 _ b h2 h4 hb hb3;omega
       refine h9.still ?_ hst.le.M (fun b hb=>hkeep b (hot b hb).2.2 (hot b hb).1 (hot b hb).2.1 _) fun b hb=>hMs b (hot b hb).2.2 (hot b hb).1 (hot b hb).2.1;rw[List.map_take,List.map_take,hsig]
    ·-- no block has two owners
     have old:∀(e:Nat) O2,(Os1++(⟨R2,O.l,O.tmps,O.fn,O.low⟩:OG)::Os.drop (d+1))[e]? =some O2→∃O3,Os[e]? =some O3∧(O2.has b→O3.has b∨w.heap.size≤b):=by
      intro e O2 h
      have heO:e<Os.length:=by
       have:=congrArg List.length hsig;have h9:=(List.getElem?_eq_some_iff.1 h).1;simp only[List.length_map]at this;omega
      exact⟨_,List.getElem?_eq_getElem heO,(how e _ O2 (List.getElem?_eq_getElem heO) h).has b⟩
     rcases hmid' e O1 h1 with⟨he,g1⟩|⟨rfl,rfl⟩|⟨he,g1⟩
     ·rcases hmid' f O2 h2 with⟨hf,g2⟩|⟨rfl,rfl⟩|⟨hf,g2⟩
      ·exact hJ1.good.stk.dis e f O1 O2 b g1 g2 hb1 hb2
      ·exfalso
       have hfb:frn Os1 b:=⟨O1,List.mem_of_getElem? g1,hb1⟩;rcases hb2 with hb2|hb2
       ·exact hnf1 (hb2▸hfb)
       ·exact hJ1.good.sep b (hown2 b hb2) hfb
      ·obtain⟨O3,g3,g4⟩:=old e O1 h1
       rcases g4 hb1 with h|h
       ·exact hg.stk.dis e f O3 O2 b g3 g2 h hb2
       ·have:=(hwl b ⟨O2,List.mem_of_getElem? g2,hb2⟩);omega
     ·rcases hmid' f O2 h2 with⟨hf,g2⟩|⟨rfl,rfl⟩|⟨hf,g2⟩
      ·exfalso
       have hfb:frn Os1 b:=⟨O2,List.mem_of_getElem? g2,hb2⟩;rcases hb1 with hb1|hb1
       ·exact hnf1 (hb1▸hfb)
       ·exact hJ1.good.sep b (hown2 b hb1) hfb
      ·rfl
      ·rcases hole.has b hb1 with h|h
       ·exact hg.stk.dis e f O O2 b hO g2 h hb2
       ·have:=(hwl b ⟨O2,List.mem_of_getElem? g2,hb2⟩);omega
     ·rcases hmid' f O2 h2 with⟨hf,g2⟩|⟨rfl,rfl⟩|⟨hf,g2⟩
      ·obtain⟨O3,g3,g4⟩:=old f O2 h2
       rcases g4 hb2 with h|h
       ·exact hg.stk.dis e f O1 O3 b g1 g3 hb1 h
       ·have:=(hwl b ⟨O1,List.mem_of_getElem? g1,hb1⟩);omega
      ·rcases hole.has b hb2 with h|h
       ·exact hg.stk.dis e f O1 O b g1 hO hb1 h
       ·have:=(hwl b ⟨O1,List.mem_of_getElem? g1,hb1⟩);omega
      ·exact hg.stk.dis e f O1 O2 b g1 g2 hb1 hb2
    ·rcases hfrn b hf with h|h
     ·exact hg.sep b hb h
     ·have:=hg.heap.lt hb;omega
   ·cases h
 ·cases h
end
end Go.Den
