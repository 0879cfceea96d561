import Derived.Test.YtjiidembdmfikaaGreatDoorZA
import Derived.RangeFuncLeaves
import Derived.Laws.AppendOwn
import Derived.OrdersIn
set_option linter.all false
set_option maxHeartbeats 8000000
set_option maxRecDepth 100000
namespace Go.Den
open Go
def flat(l:List V):List V:=l.flatMap cellsOf
structure RG where
 blk:Nat
 len:Nat
 sz:Nat
 room:Nat
inductive RS where
 |fresh
 |dead
 |live (g:RG)
inductive FC where
 |cells (c:Array Value)
 |map (es:Array MapEntry) (k:Nat)
def FC.rd:FC→Nat→Option Value
 | .cells c,k=>c[k]?
 | .map _ _,_=>none
structure Gh where
 M:Nat→Option FC
 R:Nat→RS
def Gh.rd(G:Gh)(b k:Nat):Option Value:=(G.M b).bind fun c=>c.rd k
inductive Rel (G:Gh):V→Value→Prop where
 |undef (x:Value):Rel G .undef x
 |bool (b:Bool):Rel G (.bool b) (.bool b)
 |int (k:IntKind) (n:Int):Rel G (.int k n) (.int k n)
 |flt (k:FloatKind) (b:Nat):Rel G (.flt k b) (.float k b)
 |nan (k:FloatKind) (b:Nat) (h:(k.decode b).isNaN=true):Rel G (.flt k (qn k)) (.float k b)
 |cpl (k:FloatKind) (a b:Nat):Rel G (.cpl k a b) (.complex k a b)
 |str (s:ByteArray) (l:List UInt8) (h:s.data.toList=l):Rel G (.str l) (.string s)
 |nilp:Rel G .nilp (.pointer none)
 |nilm:Rel G .nilm (.map none)
 |nilf:Rel G .nilf .nilFunc
 |nili:Rel G .nili .nilIface
 |nils (sz:Nat):Rel G (.sl false sz []) (.slice none 0 0)
 |sle (sz:Nat) (a:Addr) (cap:Nat):Rel G (.sl true sz []) (.slice (some a) 0 cap)
 |sl (sz:Nat) (l:List V) (b o cap:Nat) (f:Nat→Value) (hcap:l.length≤cap) (hp:pureL l=true) (hE:∀v∈l,zg sz v=true)
   (hr:∀k u,(flat l)[k]? =some u→G.rd b (o+k)=some (f k)) (hv:∀k u,(flat l)[k]? =some u→Rel G u (f k)):
   Rel G (.sl true sz l) (.slice (some ⟨b,o,none⟩) l.length cap)
 |pp (sz:Nat) (l:List V) (i j b o:Nat) (f:Nat→Value) (hp:pureL l=true) (hE:∀v∈l,zg sz v=true)
   (hr:∀k u,(flat l)[k]? =some u→G.rd b (o+k)=some (f k)) (hv:∀k u,(flat l)[k]? =some u→Rel G u (f k)):
   Rel G (.pp sz l i j) (.pointer (some ⟨b,o+(i*sz+j),none⟩))
 |ref (id:Nat) (a:Addr) (n cap:Nat) (hf:G.R id≠ .fresh)
   (h:∀g,G.R id= .live g→a=⟨g.blk,0,none⟩∧n=g.len∧n≤cap∧cap*g.sz≤g.room):Rel G (.ref id) (.slice (some a) n cap)
 |sub (id off n:Nat) (a:Addr) (cap:Nat) (hf:G.R id≠ .fresh) (hc:n≤cap)
   (h:∀g,G.R id= .live g→(off+n≤g.len∧g.len≤off+cap∧(off+cap)*g.sz≤g.room)∧∃b,a=b∧b.block=g.blk∧b.spot=none∧(cap≠0→b.off=off*g.sz)):Rel G (.sub id off n) (.slice (some a) n cap)
 |ptr (id i j b o:Nat) (hf:G.R id≠ .fresh) (h:∀g,G.R id= .live g→b=g.blk∧o=i*g.sz+j):Rel G (.ptr id i j) (.pointer (some ⟨b,o,none⟩))
 |map (id:Nat) (r:Option Nat) (hf:G.R id≠ .fresh) (h:∀g,G.R id= .live g→r=some g.blk):Rel G (.map id) (.map r)
 |it (id:Nat) (a:Option Addr) (hf:G.R id≠ .fresh) (h:∀g,G.R id= .live g→a=some ⟨g.blk,0,none⟩):Rel G (.it id) (.pointer a)
 |glob (g j:Nat):Rel G (.glob g j) (.pointer (some ⟨g,j,none⟩))
 |fn (f:FuncId) (cap:List V) (a:Array Value) (hs:a.size=cap.length) (h:∀(i:Nat) v x,cap[i]? =some v→a[i]? =some x→Rel G v x):Rel G (.fn f cap) (.func (.func f) #[] a)
 |mth (f:FuncId) (n:Nat) (cap:List V) (a:Array Value) (hs:a.size=cap.length) (h:∀(i:Nat) v x,cap[i]? =some v→a[i]? =some x→Rel G v x):Rel G (.fn f (.yld n::cap)) (.func (.func f) a #[])
 |iface (t:TypeId) (v:V) (x:Value) (h:Rel G v x):Rel G (.iface t v) (.iface t x)
 |agg (cs:List V) (a:Array Value) (hs:a.size=cs.length) (h:∀(i:Nat) v x,cs[i]? =some v→a[i]? =some x→Rel G v x):Rel G (.agg cs) (.agg a)
 |tup (cs:List V) (a:Array Value) (hs:a.size=cs.length) (h:∀(i:Nat) v x,cs[i]? =some v→a[i]? =some x→Rel G v x):Rel G (.tup cs) (.tuple a)
def RelL(G:Gh)(l:List V)(a:Array Value):Prop:=a.size=l.length∧∀(i:Nat) v x,l[i]? =some v→a[i]? =some x→Rel G v x
structure Gh.le (G G':Gh):Prop where
 M:∀b c,G.M b=some c→G'.M b=some c
 R:∀id,G.R id≠ .fresh→G'.R id≠ .fresh∧∀g,G'.R id= .live g→G.R id= .live g
theorem Gh.le.refl(G:Gh):G.le G:=⟨fun _ _ h=>h,fun id h=>⟨h,fun g hg=>hg⟩⟩
theorem Gh.le.trans{G1 G2 G3:Gh}(h:G1.le G2)(h':G2.le G3):G1.le G3:=
 ⟨fun b c hc=>h'.M b c (h.M b c hc),fun id hf=>⟨(h'.R id (h.R id hf).1).1,fun g hg=>(h.R id hf).2 g ((h'.R id (h.R id hf).1).2 g hg)⟩⟩
theorem Gh.le.rd{G G':Gh}(h:G.le G'){b k:Nat}{x:Value}(hx:G.rd b k=some x):G'.rd b k=some x:=by
 unfold Gh.rd at*;cases hm:G.M b with
 |none=>simp[hm]at hx
 |some c=>rw[h.M b c hm];simpa[hm]using hx
theorem Rel.mono{G G':Gh}(hG:G.le G'){v:V}{x:Value}(h:Rel G v x):Rel G' v x:=by
 induction h with
 |undef x=>exact .undef x
 |bool b=>exact .bool b
 |int k n=>exact .int k n
 |flt k b=>exact .flt k b
 |nan k b h=>exact .nan k b h
 |cpl k a b=>exact .cpl k a b
 |str s l h=>exact .str s l h
 |nilp=>exact .nilp
 |nilm=>exact .nilm
 |nilf=>exact .nilf
 |nili=>exact .nili
 |nils sz=>exact .nils sz
 |sle sz a cap=>exact .sle sz a cap
 |sl sz l b o cap f hcap hp hE hr hv ih=>exact .sl sz l b o cap f hcap hp hE (fun k u hk=>hG.rd (hr k u hk)) (fun k u hk=>ih k u hk)
 |pp sz l i j b o f hp hE hr hv ih=>exact .pp sz l i j b o f hp hE (fun k u hk=>hG.rd (hr k u hk)) (fun k u hk=>ih k u hk)
 |ref id a n cap hf h=>exact .ref id a n cap (hG.R id hf).1 (fun g hg=>h g ((hG.R id hf).2 g hg))
 |sub id off n a cap hf hc h=>exact .sub id off n a cap (hG.R id hf).1 hc (fun g hg=>h g ((hG.R id hf).2 g hg))
 |ptr id i j b o hf h=>exact .ptr id i j b o (hG.R id hf).1 (fun g hg=>h g ((hG.R id hf).2 g hg))
 |map id r hf h=>exact .map id r (hG.R id hf).1 (fun g hg=>h g ((hG.R id hf).2 g hg))
 |it id a hf h=>exact .it id a (hG.R id hf).1 (fun g hg=>h g ((hG.R id hf).2 g hg))
 |glob g j=>exact .glob g j
 |fn f cap a hs h ih=>exact .fn f cap a hs ih
 |mth f n cap a hs h ih=>exact .mth f n cap a hs ih
 |iface t v x h ih=>exact .iface t v x ih
 |agg cs a hs h ih=>exact .agg cs a hs ih
 |tup cs a hs h ih=>exact .tup cs a hs ih
theorem RelL.mono{G G':Gh}(hG:G.le G'){l:List V}{a:Array Value}(h:RelL G l a):RelL G' l a:=
 ⟨h.1,fun i v x hv hx=>(h.2 i v x hv hx).mono hG⟩
theorem pureL_iff{l:List V}:pureL l=true↔∀v∈l,pureV v=true:=by
 unfold pureL pureV
 induction l with
 |nil=>simp[zi]
 |cons v r ih=>
  simp only[zi,List.isEmpty_iff,List.append_eq_nil_iff,List.mem_cons,forall_eq_or_imp]at*;exact and_congr Iff.rfl ih
theorem zeq{v:V}(h:pureV v=true):∀u∈cellsOf v,pureV u=true:=by
 cases v with
 |agg cs=>intro u hu;exact pureL_iff.1 (show pureL cs=true by unfold pureL;simpa[pureV,idsV]using h) u hu
 |_=>intro u hu;simp only[cellsOf,List.mem_singleton]at hu;subst hu;exact h
theorem zmb{l:List V}(h:pureL l=true):∀u∈flat l,pureV u=true:=by
 intro u hu;obtain⟨v,hv,hu⟩:=List.mem_flatMap.1 hu;exact zeq (pureL_iff.1 h v hv) u hu
theorem Rel.pure{G G':Gh}(hM:∀b c,G.M b=some c→G'.M b=some c){v:V}{x:Value}(h:Rel G v x):pureV v=true→Rel G' v x:=by
 have hrd:∀{b k:Nat} {x:Value},G.rd b k=some x→G'.rd b k=some x:=by
  intro b k x hx;unfold Gh.rd at*;cases hm:G.M b with
  |none=>simp[hm]at hx
  |some c=>rw[hM b c hm];simpa[hm]using hx
 induction h with
 |undef x=>intro _;exact .undef x
 |bool b=>intro _;exact .bool b
 |int k n=>intro _;exact .int k n
 |flt k b=>intro _;exact .flt k b
 |nan k b h=>intro _;exact .nan k b h
 |cpl k a b=>intro _;exact .cpl k a b
 |str s l h=>intro _;exact .str s l h
 |nilp=>intro _;exact .nilp
 |nilm=>intro _;exact .nilm
 |nilf=>intro _;exact .nilf
 |nili=>intro _;exact .nili
 |nils sz=>intro _;exact .nils sz
 |sle sz a cap=>intro _;exact .sle sz a cap
 |sl sz l b o cap f hcap hp hE hr hv ih=>intro _;exact .sl sz l b o cap f hcap hp hE (fun k u hk=>hrd (hr k u hk)) (fun k u hk=>ih k u hk (zmb hp u (List.mem_of_getElem? hk)))
 |pp sz l i j b o f hp hE hr hv ih=>intro _;exact .pp sz l i j b o f hp hE (fun k u hk=>hrd (hr k u hk)) (fun k u hk=>ih k u hk (zmb hp u (List.mem_of_getElem? hk)))
 |ref id a n cap hf h=>intro hp;simp[pureV,idsV]at hp
 |sub id off n a cap hf hc h=>intro hp;simp[pureV,idsV]at hp
 |ptr id i j b o hf h=>intro hp;simp[pureV,idsV]at hp
 |map id r hf h=>intro hp;simp[pureV,idsV]at hp
 |it id a hf h=>intro hp;simp[pureV,idsV]at hp
 |glob g j=>intro _;exact .glob g j
 |fn f cap a hs h ih=>intro hp;exact .fn f cap a hs (fun i v x hv hx=>ih i v x hv hx (pureL_iff.1 (by unfold pureL;simpa[pureV,idsV]using hp) v (List.mem_of_getElem? hv)))
 |mth f n cap a hs h ih=>intro hp;exact .mth f n cap a hs (fun i v x hv hx=>ih i v x hv hx (pureL_iff.1 (by unfold pureL;simpa[pureV,idsV,zi]using hp) v (List.mem_of_getElem? hv)))
 |iface t v x h ih=>intro hp;exact .iface t v x (ih (by simpa[pureV,idsV]using hp))
 |agg cs a hs h ih=>intro hp;exact .agg cs a hs (fun i v x hv hx=>ih i v x hv hx (pureL_iff.1 (by unfold pureL;simpa[pureV,idsV]using hp) v (List.mem_of_getElem? hv)))
 |tup cs a hs h ih=>intro hp;exact .tup cs a hs (fun i v x hv hx=>ih i v x hv hx (pureL_iff.1 (by unfold pureL;simpa[pureV,idsV]using hp) v (List.mem_of_getElem? hv)))
theorem Rel.oneCell{G:Gh}{v:V}{x:Value}(h:Rel G v x)(hc:isCell v=true):x.oneCell'=true:=by
 cases h<;>simp[isCell,Value.oneCell']at*
theorem qo{n:Nat}{v:V}(h:zg n v=true):(cellsOf v).length=n∧∀u∈cellsOf v,isCell u=true:=by
 cases v with
 |agg cs=>simp only[zg,Bool.and_eq_true,List.all_eq_true]at h;exact⟨Nat.eq_of_beq_eq_true h.1,h.2⟩
 |_=>
  simp only[zg,Bool.and_eq_true]at h;refine⟨(Nat.eq_of_beq_eq_true h.1).symm,fun u hu=> ?_⟩;simp only[cellsOf,List.mem_singleton]at hu;subst hu;exact h.2
theorem Rel.relCells{G:Gh}{v:V}{x:Value}(h:Rel G v x)(hc:isCell v=true∨∃cs,v= .agg cs):RelL G (cellsOf v) x.cells:=by
 have one:∀{v:V} {x:Value},Rel G v x→RelL G [v] #[x]:=by
  intro v x h;refine⟨rfl,fun i v' x' hv hx=> ?_⟩;cases i with
  |zero=>simp at hv hx;subst hv;subst hx;exact h
  |succ i=>simp at hv
 cases h with
 |agg cs a hs h=>exact⟨hs,h⟩
 |undef x=>rcases hc with hc|⟨cs,hc⟩<;>simp[isCell]at hc
 |tup cs a hs h=>rcases hc with hc|⟨cs,hc⟩<;>simp[isCell]at hc
 |sl sz l b o cap f hcap hp hE hr hv=>exact one (.sl sz l b o cap f hcap hp hE hr hv)
 |sle sz a cap=>exact one (.sle sz a cap)
 |pp sz l i j b o f hp hE hr hv=>exact one (.pp sz l i j b o f hp hE hr hv)
 |str s l h=>exact one (.str s l h)
 |ref id a n cap hf h=>exact one (.ref id a n cap hf h)
 |sub id off n a cap hf hc' h=>exact one (.sub id off n a cap hf hc' h)
 |ptr id i j b o hf h=>exact one (.ptr id i j b o hf h)
 |map id r hf h=>exact one (.map id r hf h)
 |it id a hf h=>exact one (.it id a hf h)
 |fn f cap a hs h=>exact one (.fn f cap a hs h)
 |mth f n cap a hs h=>exact one (.mth f n cap a hs h)
 |iface t v x h=>exact one (.iface t v x h)
 |bool b=>exact one (.bool b)
 |int k n=>exact one (.int k n)
 |flt k b=>exact one (.flt k b)
 |nan k b h=>exact one (.nan k b h)
 |cpl k a b=>exact one (.cpl k a b)
 |nilp=>exact one .nilp
 |nilm=>exact one .nilm
 |nilf=>exact one .nilf
 |nili=>exact one .nili
 |nils sz=>exact one (.nils sz)
 |glob g j=>exact one (.glob g j)
theorem zm1{n:Nat}{v:V}(h:zg n v=true):isCell v=true∨∃cs,v= .agg cs:=by
 cases v with
 |agg cs=>exact .inr ⟨cs,rfl⟩
 |_=>simp only[zg,Bool.and_eq_true]at h;exact .inl h.2
theorem Rel.el{G:Gh}{v:V}{x:Value}{n:Nat}(h:Rel G v x)(hn:zg n v=true):
  x.cells.size=n∧RelL G (cellsOf v) x.cells∧∀y∈x.cells.toList,y.oneCell'=true:=by
 have hr:=h.relCells (zm1 hn);have hl:=qo hn;refine⟨hr.1.trans hl.1,hr,fun y hy=> ?_⟩;obtain⟨i,hi,rfl⟩:=List.mem_iff_getElem.1 hy;have hi':i<(cellsOf v).length:=by rw[←hr.1];simpa using hi
 exact(hr.2 i _ _ (List.getElem?_eq_getElem hi') (by simp[Array.getElem?_eq_getElem (show i<x.cells.size by simpa using hi)])).oneCell (hl.2 _ (List.getElem_mem hi'))
def ObjC(o:Obj):FC→Prop
 | .cells c=>∃e fr,o= .cells c e fr
 | .map es k=>o= .map es k
def vu(es:Array MapEntry)(clock:Nat):Prop:=es.toList.Pairwise (fun a b=>a.born<b.born)∧∀e∈es.toList,e.born<clock
def RowRel(G:Gh)(T:Tab)(w:World)(Fz:Nat)(id:Nat):Row→Prop
 | .free=>G.R id= .fresh∧Fz.testBit id=false
 | .dead=>∀g,G.R id≠ .live g
 | .cells _ fl ty l=>∃g,G.R id= .live g∧g.len=l.length∧g.sz=T.size ty∧g.len*g.sz≤g.room∧(∀v∈l,zg g.sz v=true)∧
   (fl=true→pureL l=true)∧
   ∃c e,w.heap[g.blk]? =some (.cells c e (0,0))∧c.size=g.room∧(∀(k:Nat) u,(flat l)[k]? =some u→∃x,c[k]? =some x∧Rel G u x)∧
    (Fz.testBit id=true→fl=true∧G.M g.blk=some (.cells c))∧(Fz.testBit id=false→G.M g.blk=none)
 | .map es=>∃g,G.R id= .live g∧G.M g.blk=none∧Fz.testBit id=false∧∃ents clock,(w.heap[g.blk]? =some (.map ents clock)∧vu ents clock)∧ents.size=es.length∧
   ∀(i:Nat) p e,es[i]? =some p→ents[i]? =some e→Rel G p.1 e.key∧Rel G p.2 e.val∧pureV p.1=true∧pureV p.2=true
 | .siter s p=>∃g,G.R id= .live g∧G.M g.blk=none∧Fz.testBit id=false∧∃bs:ByteArray,w.heap[g.blk]? =some (.stringIter bs p)∧bs.data.toList=s
 | .miter v n q=>∃g,G.R id= .live g∧G.M g.blk=none∧Fz.testBit id=false∧∃(mb:Nat) (ents:Array MapEntry) (clock:Nat) (seen:Array Nat),w.heap[g.blk]? =some (.mapIter (some mb) clock seen clock)∧G.M mb=some (.map ents clock)∧
   (q=true→∃e∈ents.toList,∃s:Array Nat,seen=s.push e.born)∧vu ents clock∧(∀e∈ents.toList,Rel G v e.val)∧pureV v=true∧(ents.toList.filter fun e=> !seen.contains e.born).length=n
structure HeapRel (G:Gh) (T:Tab) (w:World) (H:zj) (Fz:Nat):Prop where
 rows:∀id r,H[id]? =some r→RowRel G T w Fz id r
 out:∀id,H[id]? =none→G.R id= .fresh
 fz:∀id,Fz.testBit id=true→id<H.length
 inj:∀id id' g g',G.R id= .live g→G.R id'= .live g'→g.blk=g'.blk→id=id'
def Gh.owns(G:Gh)(b:Nat):Prop:=∃id g,G.R id= .live g∧g.blk=b
structure MRel (G:Gh) (T:Tab) (w:World):Prop where
 mem:∀b c,G.M b=some c→∃o,w.heap[b]? =some o∧ObjC o c
 glob:∀g cs,T.glob g=some cs→∃c,G.M g=some (.cells c)∧RelL G cs c∧pureL cs=true∧∀u∈cs,isCell u=true
def Oo(w w':World):Prop:=w'.os=w.os∧w'.output=w.output
theorem Oo.refl(w:World):Oo w w:=⟨rfl,rfl⟩
theorem Oo.trans{a b c:World}(h:Oo a b)(h':Oo b c):Oo a c:=⟨h'.1.trans h.1,h'.2.trans h.2⟩
structure Step (G:Gh) (w:World) (G':Gh) (w':World):Prop where
 le:G.le G'
 size:w.heap.size≤w'.heap.size
 owns:∀b,G'.owns b→G.owns b∨w.heap.size≤b
 mem:∀b c,G'.M b=some c→G.M b=some c∨G.owns b∨w.heap.size≤b
 keep:∀b,b<w.heap.size→¬G.owns b→w'.heap[b]? =w.heap[b]?
 oo:Oo w w'
theorem Step.refl(G:Gh)(w:World):Step G w G w:=⟨.refl G,Nat.le_refl _,fun _ h=> .inl h,fun _ _ h=> .inl h,fun _ _ _=>rfl,.refl w⟩
theorem Step.trans{G1 G2 G3:Gh}{w1 w2 w3:World}(h:Step G1 w1 G2 w2)(h':Step G2 w2 G3 w3):Step G1 w1 G3 w3 where
 le:=h.le.trans h'.le
 size:=Nat.le_trans h.size h'.size
 owns b hb:=by
  rcases h'.owns b hb with h1|h1
  ·exact h.owns b h1
  ·exact .inr (Nat.le_trans h.size h1)
 mem b c hc:=by
  rcases h'.mem b c hc with h1|h1|h1
  ·exact h.mem b c h1
  ·rcases h.owns b h1 with h2|h2
   ·exact .inr (.inl h2)
   ·exact .inr (.inr h2)
  ·exact .inr (.inr (Nat.le_trans h.size h1))
 keep b hb hn:=by
  rw[h'.keep b (Nat.lt_of_lt_of_le hb h.size) (fun h2=>by rcases h.owns b h2 with h3|h3;exact hn h3;omega)];exact h.keep b hb hn
 oo:=h.oo.trans h'.oo
end Go.Den
