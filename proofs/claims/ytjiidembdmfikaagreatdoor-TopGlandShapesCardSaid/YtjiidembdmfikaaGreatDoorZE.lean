import Derived.Test.YtjiidembdmfikaaGreatDoorZD
import Derived.Laws.CopyRow
set_option linter.all false
set_option maxHeartbeats 8000000
set_option maxRecDepth 100000
namespace Go.Den
open Go
section
variable {P:Program} {T:Tab} {slot:Option Nat} {m m':Mem} {x:V}
theorem zny{G:Gh}{Q:Nat→Value→Prop}:∀{us:List V},(∀k v,us[k]? =some v→∃x,Q k x∧Rel G v x)→∃xs,LRel G us xs∧∀(k:Nat) x,xs[k]? =some x→Q k x:=by
 intro us
 induction us generalizing Q with
 |nil=>intro _;exact⟨[],LRel.nil G,fun k x h=>by simp at h⟩
 |cons u us ih=>
  intro h;obtain⟨x,hx,hr⟩:=h 0 u rfl;obtain⟨xs,h1,h2⟩:=ih (Q:=fun k=>Q (k+1)) fun k v hv=>h (k+1) v (by simpa using hv);refine⟨x::xs,by simpa using (LRel.one hr).append h1,fun k y hy=> ?_⟩;cases k with
  |zero=>simp at hy;subst hy;exact hx
  |succ k=>exact h2 k y (by simpa using hy)
theorem zc2{t:TypeId}(h:T.size t≠0):∃i,T.ti t=some i:=by
 unfold Tab.size at h;cases hi:T.ti t with
 |none=>simp[hi]at h
 |some i=>exact⟨i,rfl⟩
theorem zow{t:TypeId}(h:T.isAgg t=true):∃i,T.ti t=some i:=by
 unfold Tab.isAgg at h;cases hi:T.ti t with
 |none=>simp[hi]at h
 |some i=>exact⟨i,rfl⟩
structure PartOf (T:Tab) (sz:Nat) (t:TypeId) (v:V) (j:Nat) (u:V) (us:List V):Prop where
 eq:us=((cellsOf v).drop j).take (T.size t)
 len:us.length=T.size t
 le:j+T.size t≤sz
 ti:∃i,T.ti t=some i
 kind:(T.isAgg t=true∧u= .agg us)∨(T.isAgg t=false∧T.size t=1∧us= [u])
theorem zme{α:Type}{sz:Nat}{t:TypeId}{v:V}{j:Nat}{k:V→Option α}{r:α}(h:jt T sz t v j k=some r)(hv:zg sz v=true):
  ∃u us,k u=some r∧PartOf T sz t v j u us:=by
 have hl:=(qo hv).1;unfold jt at h;split at h
 ·rename_i hA
  split at h
  ·rename_i hb
   simp only[Bool.and_eq_true]at hb;have hj:=Nat.eq_of_beq_eq_true hb.1;have hs:=Nat.eq_of_beq_eq_true hb.2;obtain⟨cs,rfl,h⟩:=zbr h;simp only[cellsOf]at hl;refine⟨_,cs,h,⟨?_,by rw[hl,hs],by omega,zow hA,.inl ⟨hA,rfl⟩⟩⟩;simp only[cellsOf,hj,List.drop_zero];rw[List.take_of_length_le (by omega)]
  ·obtain⟨hb,h⟩:=xf h
   have hb:=Nat.le_of_ble_eq_true hb;exact⟨_,_,h,⟨rfl,by rw[List.length_take,List.length_drop];omega,hb,zow hA,.inl ⟨hA,rfl⟩⟩⟩
 ·rename_i hA
  obtain⟨hb,h⟩:=xf h;have hs:=Nat.eq_of_beq_eq_true hb;obtain⟨u,hu,h⟩:=jb h;have hj:=(List.getElem?_eq_some_iff.1 hu).1;refine⟨u,[u],h,⟨?_,by rw[hs];rfl,by omega,zc2 (by omega),.inr ⟨hA,hs,rfl⟩⟩⟩;rw[hs,List.drop_eq_getElem_cons hj];simp[(List.getElem?_eq_some_iff.1 hu).2]
theorem zmu(hT:TabOk P T){sz:Nat}{t:TypeId}{v u:V}{us:List V}{j b o:Nat}{w:World}{G:Gh}(hp:PartOf T sz t v j u us)
  (hc:∀k y,us[k]? =some y→∃x,w.cell? ⟨b,o+k,none⟩=some x∧Rel G y x):∃y,(loadVar t ⟨b,o,none⟩).run P w= .ok y w∧Rel G u y:=by
 obtain⟨i,hi⟩:=hp.ti;obtain⟨xs,h1,h2⟩:=zny hc;rcases hp.kind with⟨hA,rfl⟩|⟨hA,hs,rfl⟩
 ·refine⟨.agg xs.toArray,?_,h1.toAgg (a:=xs.toArray)⟩
  have hl:=run_loadCells_list (P:=P) w ⟨b,o,none⟩ xs fun k y hy=>by rw[Addr.add_lit];exact h2 k y hy
  rw[h1.1,hp.len]at hl;simp only[loadVar,Sem.run_bind,hT.agg hi,Result.andThen_ok,hA,if_true,hT.size hi,hl,Sem.run_pure]
 ·obtain⟨y,hy,hr⟩:=hc 0 u rfl
  refine⟨y,?_,hr⟩;simp only[loadVar,Sem.run_bind,hT.agg hi,Result.andThen_ok,hA,Bool.false_eq_true,if_false,run_load];simp only[Nat.add_zero]at hy;rw[hy]
theorem getElem?_part{cs:List V}{j n k:Nat}{y:V}(h:((cs.drop j).take n)[k]? =some y):cs[j+k]? =some y∧k<n:=by
 rw[List.getElem?_take]at h;split at h
 ·rw[List.getElem?_drop]at h;exact⟨h,by assumption⟩
 ·cases h
theorem ynv{sz:Nat}{t:TypeId}{l:List V}{i j:Nat}{v u:V}{us:List V}(hE:∀v∈l,zg sz v=true)(hi:l[i]? =some v)(hp:PartOf T sz t v j u us){k:Nat}{y:V}(hk:us[k]? =some y):
  (flat l)[i*sz+j+k]? =some y:=by
 rw[hp.eq]at hk;obtain⟨h1,h2⟩:=getElem?_part hk;have:=hp.le;rw[Nat.add_assoc,yml hE hi _ (by omega),h1]
theorem ylq(hT:TabOk P T){t:TypeId}{a:V}{k:V→Prog}(h:Res slot (j9 T t a k) m x m'):
  ∃v,Res slot (k v) m x m'∧∀(G:Gh) (w:World) (y:Value),Rel G a y→HeapRel G T w m.H m.Fz→MRel G T w→∃z,(Instr.loadAt t y).run P w= .ok z w∧Rel G v z:=by
 unfold j9 at h;split at h
 ·rename_i id i j
  obtain⟨r,hr,h⟩:=h.get
  have base:∀(b fl:Bool) (ety:TypeId) (l:List V) (v u:V) (us:List V),m.H[id]? =some (.cells b fl ety l)→l[i]? =some v→(zg (T.size ety) v=true→PartOf T (T.size ety) t v j u us)→
    ∀(G:Gh) (w:World) (y:Value),Rel G (.ptr id i j) y→HeapRel G T w m.H m.Fz→MRel G T w→∃z,(Instr.loadAt t y).run P w= .ok z w∧Rel G u z:=by
   intro b fl ety l v u us hr hv hp G w y hy hH hM;obtain⟨g,hg,h1,h2,h3,h4,h5,c,e,hc,hs,hcs,_⟩:=hH.rows id _ hr;cases hy with|ptr _ _ _ b0 o0 hf ha=>
   obtain⟨rfl,rfl⟩:=ha g hg;have hE:=h4 v (List.mem_of_getElem? hv);rw[h2]at hE h4
   obtain⟨z,hz,hrel⟩:=zmu (P:=P) hT (w:=w) (G:=G) (b:=g.blk) (o:=i*g.sz+j) (hp hE) fun k y hk=>by
    have:=ynv (T:=T) h4 hv (hp hE) hk;rw[←h2]at this;obtain⟨x,hx,hr⟩:=hcs _ _ this;exact⟨x,by rw[cell_of_row w _ _ c e (0,0) hc];exact hx,hr⟩
   exact⟨z,by simpa[Instr.loadAt,Instr.sureAddr]using hz,hrel⟩
  split at h
  ·rename_i fl ety l
   obtain⟨p,hp,h⟩:=h.toP;obtain⟨v,hv,hp⟩:=jb hp;by_cases hE:zg (T.size ety) v=true
   ·obtain⟨u,us,hk,hpo⟩:=zme hp hE
    simp only[Option.some.injEq]at hk;subst hk;exact⟨u,h,base _ _ _ _ v u us hr hv fun _=>hpo⟩
   ·-- the row's elements are elements:no such state is told
    unfold jt at hp
    have hno:∀(u:V) (G:Gh) (w:World) (y:Value),Rel G (.ptr id i j) y→HeapRel G T w m.H m.Fz→MRel G T w→∃z,(Instr.loadAt t y).run P w= .ok z w∧Rel G u z:=by
     intro u G w y hy hH hM;obtain⟨g,hg,h1,h2,h3,h4,_⟩:=hH.rows id _ hr;exact absurd (h2▸h4 v (List.mem_of_getElem? hv)) hE
    split at hp
    ·split at hp
     ·obtain⟨cs,_,hp⟩:=zbr hp;simp only[Option.some.injEq]at hp;subst hp;exact⟨_,h,hno _⟩
     ·obtain⟨_,hp⟩:=xf hp;simp only[Option.some.injEq]at hp;subst hp;exact⟨_,h,hno _⟩
    ·obtain⟨_,hp⟩:=xf hp
     obtain⟨u,_,hp⟩:=jb hp;simp only[Option.some.injEq]at hp;subst hp;exact⟨_,h,hno _⟩
  ·rename_i fl ety l
   obtain⟨p,hp,h⟩:=h.toP;obtain⟨v,hv,hp⟩:=jb hp;by_cases hE:zg (T.size ety) v=true
   ·obtain⟨u,us,hk,hpo⟩:=zme hp hE
    obtain⟨u',hk,hsame⟩:=wm _ _ _ _ _ hk;simp only[Option.some.injEq]at hk;subst hk;refine⟨u',h,fun G w y hy hH hM=> ?_⟩;obtain⟨z,hz,hrz⟩:=base _ _ _ _ v u us hr hv (fun _=>hpo) G w y hy hH hM;exact⟨z,hz,hsame G z hrz⟩
   ·unfold jt at hp
    have hno:∀(u:V) (G:Gh) (w:World) (y:Value),Rel G (.ptr id i j) y→HeapRel G T w m.H m.Fz→MRel G T w→∃z,(Instr.loadAt t y).run P w= .ok z w∧Rel G u z:=by
     intro u G w y hy hH hM;obtain⟨g,hg,h1,h2,h3,h4,_⟩:=hH.rows id _ hr;exact absurd (h2▸h4 v (List.mem_of_getElem? hv)) hE
    split at hp
    ·split at hp
     ·obtain⟨cs,_,hp⟩:=zbr hp;obtain⟨_,hp,_⟩:=wm _ _ _ _ _ hp;simp only[Option.some.injEq]at hp;subst hp;exact⟨_,h,hno _⟩
     ·obtain⟨_,hp⟩:=xf hp;obtain⟨_,hp,_⟩:=wm _ _ _ _ _ hp;simp only[Option.some.injEq]at hp;subst hp;exact⟨_,h,hno _⟩
    ·obtain⟨_,hp⟩:=xf hp
     obtain⟨u,_,hp⟩:=jb hp;obtain⟨_,hp,_⟩:=wm _ _ _ _ _ hp;simp only[Option.some.injEq]at hp;subst hp;exact⟨_,h,hno _⟩
  ·exact h.fail.elim
 ·rename_i sz l i j
  obtain⟨p,hp,h⟩:=h.toP;obtain⟨v,hv,hp⟩:=jb hp;by_cases hE:zg sz v=true
  ·obtain⟨u,us,hk,hpo⟩:=zme hp hE
   obtain⟨u',hk,hsame⟩:=wm _ _ _ _ _ hk;simp only[Option.some.injEq]at hk;subst hk;refine⟨u',h,fun G w y hy hH hM=> ?_⟩;cases hy with|pp _ _ _ _ b o f hpu hEl hrd hv'=>
   obtain⟨z,hz,hrel⟩:=zmu (P:=P) hT (w:=w) (G:=G) (b:=b) (o:=o+(i*sz+j)) hpo fun k y hk=>by
    have hk':=ynv (T:=T) hEl hv hpo hk;have h1:=hrd _ _ hk';refine⟨_,?_,hv' _ _ hk'⟩;unfold Gh.rd at h1;cases hMb:G.M b with
    |none=>rw[hMb]at h1;cases h1
    |some c=>
     obtain⟨o',hc,hob⟩:=hM.mem b c hMb;rw[hMb]at h1;simp only[Option.bind_some]at h1;obtain⟨c,e,fr,rfl,rfl,h1⟩:=ObjC.cells hob h1;rw[cell_of_row w _ _ c e fr hc];rw[←h1];congr 1;omega
   exact⟨z,by simpa[Instr.loadAt,Instr.sureAddr]using hz,hsame G z hrel⟩
  ·unfold jt at hp
   have hno:∀(u:V) (G:Gh) (w:World) (y:Value),Rel G (.pp sz l i j) y→HeapRel G T w m.H m.Fz→MRel G T w→∃z,(Instr.loadAt t y).run P w= .ok z w∧Rel G u z:=by
    intro u G w y hy hH hM;cases hy with|pp _ _ _ _ b o f hpu hEl hrd hv'=>exact absurd (hEl v (List.mem_of_getElem? hv)) hE
   split at hp
   ·split at hp
    ·obtain⟨cs,_,hp⟩:=zbr hp;obtain⟨_,hp,_⟩:=wm _ _ _ _ _ hp;simp only[Option.some.injEq]at hp;subst hp;exact⟨_,h,hno _⟩
    ·obtain⟨_,hp⟩:=xf hp;obtain⟨_,hp,_⟩:=wm _ _ _ _ _ hp;simp only[Option.some.injEq]at hp;subst hp;exact⟨_,h,hno _⟩
   ·obtain⟨_,hp⟩:=xf hp
    obtain⟨u,_,hp⟩:=jb hp;obtain⟨_,hp,_⟩:=wm _ _ _ _ _ hp;simp only[Option.some.injEq]at hp;subst hp;exact⟨_,h,hno _⟩
 ·rename_i gl j
  obtain⟨cs,hcs,h⟩:=h.optP
  have base:∀(u:V) (us:List V),us=(cs.drop j).take (T.size t)→us.length=T.size t→(∃i,T.ti t=some i)→((T.isAgg t=true∧u= .agg us)∨(T.isAgg t=false∧T.size t=1∧us= [u]))→
    ∀(G:Gh) (w:World) (y:Value),Rel G (.glob gl j) y→HeapRel G T w m.H m.Fz→MRel G T w→∃z,(Instr.loadAt t y).run P w= .ok z w∧Rel G u z:=by
   intro u us hus hlen hti hkind G w y hy hH hM;cases hy;obtain⟨c,hc,hrc,_,_⟩:=hM.glob gl cs hcs;obtain⟨o',hbl,hob⟩:=hM.mem gl _ hc
   obtain⟨z,hz,hrel⟩:=zmu (P:=P) hT (w:=w) (G:=G) (b:=gl) (o:=j) (sz:=j+T.size t) (v:= .agg cs) (j:=j) (u:=u) (us:=us) ⟨hus,hlen,Nat.le_refl _,hti,hkind⟩ fun k y hk=>by
    rw[hus]at hk;obtain⟨h1,_⟩:=getElem?_part hk;obtain⟨x,hx,hr⟩:=(q9.1 hrc).get h1;obtain⟨e,fr,rfl⟩:=hob;exact⟨x,by rw[cell_of_row w _ _ c e fr hbl];simpa using hx,hr⟩
   exact⟨z,by simpa[Instr.loadAt,Instr.sureAddr]using hz,hrel⟩
  split at h
  ·rename_i hA
   obtain⟨hb,h⟩:=h.needP;have hb:=Nat.le_of_ble_eq_true hb;exact⟨_,h,base _ _ rfl (by rw[List.length_take,List.length_drop];omega) (zow hA) (.inl ⟨hA,rfl⟩)⟩
  ·rename_i hA
   obtain⟨hb,h⟩:=h.needP;have hs:=Nat.eq_of_beq_eq_true hb;obtain⟨p,hp,h⟩:=h.toP;obtain⟨v,hv,hp⟩:=jb hp;simp only[Option.some.injEq]at hp;subst hp;have hj:=(List.getElem?_eq_some_iff.1 hv).1;refine⟨v,h,base v [v] ?_ (by rw[hs];rfl) (zc2 (by omega)) (.inr ⟨hA,hs,rfl⟩)⟩;rw[hs,List.drop_eq_getElem_cons hj];simp[(List.getElem?_eq_some_iff.1 hv).2]
 ·exact h.fail.elim
theorem ys7{n:Nat}{v:V}(hv:zg n v=true):pureV v=true↔∀u∈cellsOf v,pureV u=true:=by
 constructor
 ·exact zeq
 ·intro h
  cases v with
  |agg cs=>
   have:=pureL_iff.2 h;unfold pureV pureL at*;simpa[idsV,cellsOf]using this
  |_=>exact h _ (by simp[cellsOf])
theorem ys6{n t:Nat}{old v:V}{j:Nat}(ho:zg n old=true)(hv:zg t v=true)(h:j+t≤n)(ht:0<t)(h1:pureV old=true)(h2:pureV v=true):pureV (vr old v j)=true:=by
 refine(ys7 (zm0 ho hv h ht)).2 fun u hu=> ?_;rw[ynz ho hv h ht]at hu;unfold xl at hu;rcases List.mem_append.1 hu with hu|hu
 ·exact zeq h1 u (List.mem_of_mem_take hu)
 ·rcases List.mem_append.1 hu with hu|hu
  ·exact zeq h2 u hu
  ·exact zeq h1 u (List.mem_of_mem_drop hu)
theorem yyl{t:TypeId}(h:0<T.size t):∃i,T.ti t=some i:=zc2 (by omega)
theorem ynw{G:Gh}{us new:List V}{c:Array Value}{o:Nat}{xs:List Value}(h:CellsRel G us c 0)(hx:LRel G new xs)(ho:o+new.length≤us.length):
  CellsRel G (xl us o new) (c.toList.take o++xs++c.toList.drop (o+xs.length)).toArray 0:=by
 intro k u hu;rw[getElem?_setCells ho]at hu
 have hlc:us.length≤c.size:=by
  cases hl:us.length with
  |zero=>omega
  |succ n=>
   obtain⟨x,hx,_⟩:=h n us[n] (List.getElem?_eq_getElem (by omega));have:=(Array.getElem?_eq_some_iff.1 hx).1;omega
 have htl:(c.toList.take o).length=o:=by rw[List.length_take,Array.length_toList];omega
 rw[Nat.zero_add,List.append_assoc];simp only[List.getElem?_toArray];by_cases h1:k<o
 ·rw[if_neg (by omega)]at hu
  obtain⟨x,hx',hr⟩:=h k u hu;refine⟨x,?_,hr⟩;rw[List.getElem?_append_left (by omega),List.getElem?_take,if_pos h1];simpa using hx'
 ·rw[List.getElem?_append_right (by omega),htl]
  by_cases h2:k<o+new.length
  ·rw[if_pos (by omega)]at hu
   obtain⟨x,hx',hr⟩:=hx.get hu;refine⟨x,?_,hr⟩;rw[List.getElem?_append_left (by rw[hx.1];omega)];exact hx'
  ·rw[if_neg (by omega)]at hu
   obtain⟨x,hx',hr⟩:=h k u hu;refine⟨x,?_,hr⟩;rw[List.getElem?_append_right (by rw[hx.1];omega),List.getElem?_drop,hx.1];rw[show o+new.length+(k- o- new.length)=k by omega];simpa using hx'
theorem zkl(hT:TabOk P T){b:Bool}{id i j:Nat}{t:TypeId}{v:V}{k:Prog}(h:Res slot (storeAt T b id i j t v k) m x m')(hz:m.Fz.testBit id=false):
  ∃m1,Res slot k m1 x m'∧m1.S=m.S∧∀(G:Gh) (w:World) (y z:Value),Rel G (.ptr id i j) y→Rel G v z→HeapRel G T w m.H m.Fz→MRel G T w→
   ∃w',(Instr.storeAt t y z).run P w= .ok () w'∧Step G w G w'∧HeapRel G T w' m1.H m1.Fz∧MRel G T w':=by
 unfold storeAt at h;obtain⟨r,hr,h⟩:=h.get;split at h
 ·rename_i b' fl ety l
  obtain⟨_,h⟩:=h.needP;obtain⟨p,hp,h⟩:=h.toP;obtain⟨old,hold,hp⟩:=jb hp;obtain⟨hb,hp⟩:=xf hp;simp only[Option.some.injEq]at hp;subst hp;simp only[Bool.and_eq_true]at hb;obtain⟨hv,hpos,hle⟩:=hb;have hpos:0<T.size t:=Nat.le_of_ble_eq_true hpos;have hle:=Nat.le_of_ble_eq_true hle;obtain⟨_,h⟩:=h.set;refine⟨_,h,rfl,fun G w y z hy hz' hH hM=> ?_⟩;obtain⟨g,hg,h1,h2,h3,h4,h5,c,e,hc,hs,hcs,hz1,hz2⟩:=hH.rows id _ hr;have hMn:=hz2 hz;cases hy with|ptr _ _ _ b0 o0 hf ha=>
  obtain⟨rfl,rfl⟩:=ha g hg;obtain⟨ti,hti⟩:=yyl hpos;obtain⟨e1,e2,e3⟩:=hz'.el hv;have hi:i<l.length:=(List.getElem?_eq_some_iff.1 hold).1;have hEo:=h4 old (List.mem_of_getElem? hold);have hle':j+T.size t≤g.sz:=by rw[h2];exact hle
  have hflen:=vx h4;have hlv:=(qo hv).1
  have hin0:i*g.sz+g.sz≤l.length*g.sz:=by
   have:(i+1)*g.sz≤l.length*g.sz:=Nat.mul_le_mul_right _ hi;rw[Nat.add_mul]at this;omega
  have hin:i*g.sz+j+T.size t≤l.length*g.sz:=by omega
  have h3':l.length*g.sz≤c.size:=by rw[hs,←h1];exact h3
  have hst:=run_storeCells_at P g.blk (i*g.sz+j) e z.cells.toList 0 c w hc (by rw[Array.length_toList,e1];omega) e3;simp only[Nat.add_zero]at hst;refine⟨w.setRow g.blk (c.toList.take (i*g.sz+j)++z.cells.toList++c.toList.drop (i*g.sz+j+z.cells.toList.length)).toArray,?_,?_⟩
  ·simp only[Instr.storeAt,Instr.sureAddr,storeVar,Sem.run_bind,Sem.run_pure,Result.andThen_ok,hT.size hti,e1]
   simp only[ne_eq,not_true_eq_false,if_false,Sem.run_pure,Sem.run_bind,Result.andThen_ok,hst]
  ·refine heap_set hH hM hr hg hMn (fun b hb=>setRow_other w g.blk b _ hb) (by simp) ?_
   refine⟨g,hg,by simpa using h1,h2,h3,fun u hu=> ?_,fun hfl=> ?_,_,e,setRow_heap w g.blk c _ e _ hc,?_,fun k u hu=> ?_,fun hz'=>(by rw[hz]at hz';cases hz'),fun _=>hMn⟩
   ·rcases List.mem_or_eq_of_mem_set hu with hu|rfl
    ·exact h4 u hu
    ·exact zm0 hEo hv hle' hpos
   ·simp only[Bool.and_eq_true]at hfl
    refine pureL_iff.2 fun u hu=> ?_;rcases List.mem_or_eq_of_mem_set hu with hu|rfl
    ·exact pureL_iff.1 (h5 hfl.1) u hu
    ·exact ys6 hEo hv hle' hpos (pureL_iff.1 (h5 hfl.1) old (List.mem_of_getElem? hold)) hfl.2
   ·simp only[List.size_toArray,List.length_append,List.length_take,List.length_drop,Array.length_toList,e1]
    omega
   ·have key:flat (l.set i (vr old v j))=xl (flat l) (i*g.sz+j) (cellsOf v):=by
     rw[ymi h4 hi (zm0 hEo hv hle' hpos),ynz hEo hv hle' hpos];refine yrl (n:=g.sz) (by rw[hflen];omega) (qo hEo).1 ?_ (by omega);apply List.ext_getElem?;intro q;rw[List.getElem?_take];by_cases hq:q<g.sz
     ·rw[if_pos hq,List.getElem?_drop,yml h4 hold q hq]
     ·rw[if_neg hq,List.getElem?_eq_none (by rw[(qo hEo).1];omega)]
    rw[key]at hu;have:=ynw (c:=c) (o:=i*g.sz+j) (xs:=z.cells.toList) (fun k u hu=>by obtain⟨x,hx,hr⟩:=hcs k u hu;exact⟨x,by simpa using hx,hr⟩) (q9.1 e2) (by rw[hlv,hflen];exact hin) k u hu;simpa using this
 ·exact h.fail.elim
theorem zg8{G:Gh}{w w':World}{m1:Mem}{id:Nat}{b fl:Bool}{ty e:TypeId}{l:List V}{c:Array Value}(hn:NewAt m id (.cells b fl ty l) m1)(hH:HeapRel G T w m.H m.Fz)(hM:MRel G T w)
  (hE:∀v∈l,zg (T.size ty) v=true)(hfl:fl=true→pureL l=true)(hroom:l.length*T.size ty≤c.size)(hc:CellsRel G (flat l) c 0)(hw:w'.heap=w.heap.push (.cells c e))(hO:Oo w w':=by exact⟨rfl,rfl⟩):
  ∃g:RG,g.blk=w.heap.size∧g.len=l.length∧g.sz=T.size ty∧g.room=c.size∧Step G w (G.setR id (.live g)) w'∧HeapRel (G.setR id (.live g)) T w' m1.H m1.Fz∧MRel (G.setR id (.live g)) T w'∧(G.setR id (.live g)).R id= .live g:=by
 refine⟨⟨w.heap.size,l.length,T.size ty,c.size⟩,rfl,rfl,rfl,rfl,zhq hn hH hM hw rfl (fun hle hMn hz=> ?_) hO⟩;refine⟨_,by simp[Gh.setR],rfl,rfl,hroom,hE,hfl,c,e,by rw[hw];simp,rfl,fun k u hu=> ?_,fun hz'=>(by rw[hz]at hz';cases hz'),fun _=>hMn⟩;obtain⟨y,hy,hr⟩:=hc k u hu;exact⟨y,by simpa using hy,hr.mono hle⟩
theorem cellsRel_one{G:Gh}{v:V}{z:Value}{n:Nat}(h:Rel G v z)(hv:zg n v=true):CellsRel G (flat [v]) z.cells 0:=by
 obtain⟨e1,e2,_⟩:=h.el hv;have:flat [v]=cellsOf v:=by simp[flat]
 rw[this];exact(q9.1 e2).cells fun k x hx=>by simpa using hx
theorem yom(hT:TabOk P T){t:TypeId}{v:V}{k:V→Prog}(h:Res slot (needP (zg (T.size t) v) (newP (.cells true (pureV v) t [v]) fun id=>k (.ptr id 0 0))) m x m'):
  ∃id m1,Res slot (k (.ptr id 0 0)) m1 x m'∧m1.S=m.S∧zg (T.size t) v=true∧∀(G:Gh) (w:World) (y:Value),Rel G v y→HeapRel G T w m.H m.Fz→MRel G T w→
   ∃z w' G',(Instr.box t y).run P w= .ok z w'∧(newVar t y).run P w= .ok ⟨w.heap.size,0,none⟩ w'∧z= .pointer (some ⟨w.heap.size,0,none⟩)∧Step G w G' w'∧HeapRel G' T w' m1.H m1.Fz∧MRel G' T w'∧Rel G' (.ptr id 0 0) z:=by
 obtain⟨hv,h⟩:=h.needP;obtain⟨id,m1,hn,h⟩:=h.newP;refine⟨id,m1,h,hn.S,hv,fun G w y hy hH hM=> ?_⟩;obtain⟨e1,e2,_⟩:=hy.el hv;obtain⟨g,g1,g2,g3,g4,hS,hH',hM',hR⟩:=zg8 (w':=w.alloc (.cells y.cells t)) (c:=y.cells) (e:=t) hn hH hM (by simpa using hv) (by intro hp;simpa[pureL_iff]using hp) (by simp[e1]) (cellsRel_one hy hv) rfl;refine⟨_,_,_,rfl,rfl,rfl,hS,hH',hM',?_⟩;refine .ptr id 0 0 _ _ (by rw[hR];simp) fun g' hg'=> ?_;rw[hR]at hg';cases hg';simp[g1]
theorem zo2(hT:TabOk P T){t:TypeId}{n:Nat}(h:zg n (T.zero t)=true)(w:World):∃z,(zeroValue t).run P w= .ok z w∧∀G,Rel G (T.zero t) z:=by
 unfold Tab.zero at h⊢;cases hi:T.ti t with
 |none=>simp[hi,zg,isCell]at h
 |some i=>
  obtain⟨inf,d,h1,h2,h3,h4,h5,z,h6,h7⟩:=hT.get hi;refine⟨z,by simp[zeroValue,typeInfo,h1,h6],fun G=> ?_⟩;simp only[h7];exact zf7 G z
theorem xiv(hT:TabOk P T){t:TypeId}{k:V→Prog}(h:Res slot (needP (zg (T.size t) (T.zero t)) (newP (.cells true (pureV (T.zero t)) t [T.zero t]) fun id=>k (.ptr id 0 0))) m x m'):
  ∃id m1,Res slot (k (.ptr id 0 0)) m1 x m'∧m1.S=m.S∧∀(G:Gh) (w:World),HeapRel G T w m.H m.Fz→MRel G T w→
   ∃z w' G',(Instr.alloc t true (.tuple #[])).run P w= .ok z w'∧Step G w G' w'∧HeapRel G' T w' m1.H m1.Fz∧MRel G' T w'∧Rel G' (.ptr id 0 0) z:=by
 obtain⟨id,m1,h,hS,hv,hb⟩:=yom hT h;refine⟨id,m1,h,hS,fun G w hH hM=> ?_⟩;obtain⟨z0,hz0,hr0⟩:=zo2 hT hv w;obtain⟨z,w',G',e1,e2,rfl,e3,e4,e5,e6⟩:=hb G w z0 (hr0 G) hH hM;refine⟨_,w',G',?_,e3,e4,e5,e6⟩;simp only[Instr.alloc,Sem.run_bind,hz0,Result.andThen_ok,e2,Sem.run_pure]
end
section
variable {P:Program} {T:Tab} {slot:Option Nat} {x:V} {m':Mem}
structure Keep (v v':V):Prop where
 cell:isCell v=true→isCell v'=true
 el:∀n,zg n v=true→zg n v'=true
 yld:zm v'=zm v
 same:∀n,v= .yld n→v'= .yld n
theorem Keep.refl(v:V):Keep v v:=⟨id,fun _ h=>h,rfl,fun _ h=>h⟩
theorem Keep.cells{v v':V}(h:isCell v=true)(h':isCell v'=true):Keep v v':=by
 refine⟨fun _=>h',fun n hn=> ?_,?_,fun n hn=>by subst hn;simp[isCell]at h⟩
 ·have h1:n=1:=by
   cases v<;>simp[isCell]at h<;>(simp only[zg,Bool.and_eq_true]at hn;exact Nat.eq_of_beq_eq_true hn.1)
  subst h1;cases v'<;>first|(simp[isCell]at h';done)|exact h'
 ·cases v<;>first|(simp[isCell]at h;done)|(cases v'<;>first|(simp[isCell]at h';done)|rfl)
structure Frozen (T:Tab) (G:Gh) (w:World) (G1:Gh) (m1:Mem):Prop where
 step:Step G w G1 w
 heap:HeapRel G1 T w m1.H m1.Fz
 mem:MRel G1 T w
 R:G1.R=G.R
theorem Frozen.refl{G:Gh}{w:World}{m:Mem}(hH:HeapRel G T w m.H m.Fz)(hM:MRel G T w):Frozen T G w G m:=⟨.refl G w,hH,hM,rfl⟩
theorem Frozen.trans{G G1 G2:Gh}{w:World}{m1 m2:Mem}(h:Frozen T G w G1 m1)(h':Frozen T G1 w G2 m2):Frozen T G w G2 m2:=⟨h.step.trans h'.step,h'.heap,h'.mem,h'.R.trans h.R⟩
def zkc(T:Tab)(slot:Option Nat)(fr:V→(V→Prog)→Prog):Prop:=
 ∀(v:V) (k:V→Prog) (m:Mem) (x:V) (m':Mem),Res slot (fr v k) m x m'→∃v' m1,Res slot (k v') m1 x m'∧m1.S=m.S∧Keep v v'∧
  ∀(G:Gh) (w:World),HeapRel G T w m.H m.Fz→MRel G T w→∃G1,Frozen T G w G1 m1∧pureV v'=true∧∀y,Rel G v y→Rel G1 v' y
theorem zfb{fr:V→(V→Prog)→Prog}(hf:zkc T slot fr):∀(l:List V) (k:List V→Prog) (m:Mem) (x:V) (m':Mem),Res slot (frzLP fr l k) m x m'→
  ∃l' m1,Res slot (k l') m1 x m'∧m1.S=m.S∧l'.length=l.length∧(∀(i:Nat) v v',l[i]? =some v→l'[i]? =some v'→Keep v v')∧
   ∀(G:Gh) (w:World),HeapRel G T w m.H m.Fz→MRel G T w→∃G1,Frozen T G w G1 m1∧pureL l'=true∧∀(i:Nat) v v' y,l[i]? =some v→l'[i]? =some v'→Rel G v y→Rel G1 v' y:=by
 intro l
 induction l with
 |nil=>intro k m x m' h;exact⟨[],m,h,rfl,rfl,fun i v v' hv=>by simp at hv,fun G w hH hM=>⟨G,.refl hH hM,rfl,fun i v v' y hv=>by simp at hv⟩⟩
 |cons v l ih=>
  intro k m x m' h;simp only[frzLP]at h;obtain⟨v',m1,h,hS1,hk1,hg1⟩:=hf _ _ _ _ _ h;obtain⟨l',m2,h,hS2,hl2,hk2,hg2⟩:=ih _ _ _ _ h;refine⟨v'::l',m2,h,hS2.trans hS1,by simp[hl2],fun i a a' ha ha'=> ?_,fun G w hH hM=> ?_⟩
  ·cases i with
   |zero=>simp at ha ha';subst ha;subst ha';exact hk1
   |succ i=>exact hk2 i a a' (by simpa using ha) (by simpa using ha')
  ·obtain⟨G1,f1,hp1,r1⟩:=hg1 G w hH hM
   obtain⟨G2,f2,hp2,r2⟩:=hg2 G1 w f1.heap f1.mem;refine⟨G2,f1.trans f2,pureL_iff.2 fun u hu=>(List.mem_cons.1 hu).elim (fun e=>e▸hp1) (pureL_iff.1 hp2 u),fun i a a' y ha ha' hy=> ?_⟩;cases i with
   |zero=>simp at ha ha';subst ha;subst ha';exact(r1 y hy).mono f2.step.le
   |succ i=>exact r2 i a a' y (by simpa using ha) (by simpa using ha') (hy.mono f1.step.le)
theorem xf5{x:Value}(h:x.oneCell'=true):x.cells= #[x]:=by cases x<;>simp[Value.oneCell',Value.cells]at*
theorem xem{G:Gh}{v:V}{n:Nat}{c:Array Value}{o:Nat}(hv:zg n v=true)(h:CellsRel G (cellsOf v) c o):
  ∃y,Rel G v y∧∀(q:Nat) x,y.cells[q]? =some x→c[o+q]? =some x:=by
 by_cases ha:∃cs,v= .agg cs
 ·obtain⟨cs,rfl⟩:=ha
  obtain⟨xs,h1,h2⟩:=zny h;exact⟨.agg xs.toArray,h1.toAgg (a:=xs.toArray),fun q x hx=>h2 q x (by simpa[Value.cells]using hx)⟩
 ·have hc:isCell v=true:=by rcases zm1 hv with h|h;exact h;exact absurd h ha
  have hcv:cellsOf v= [v]:=by cases v<;>first|rfl|exact absurd ⟨_,rfl⟩ ha
  rw[hcv]at h;obtain⟨y,hy,hr⟩:=h 0 v rfl;refine⟨y,hr,fun q x hx=> ?_⟩;rw[xf5 (hr.oneCell hc)]at hx;have:=(Array.getElem?_eq_some_iff.1 hx).1;simp at this;subst this;simp at hx;subst hx;exact hy
theorem xel{G:Gh}{n:Nat}{c:Array Value}:∀{l:List V} {o:Nat},(∀v∈l,zg n v=true)→CellsRel G (flat l) c o→
  ∃ys,LRel G l ys∧∀(i:Nat) y,ys[i]? =some y→∀(q:Nat) x,y.cells[q]? =some x→c[o+i*n+q]? =some x:=by
 intro l
 induction l with
 |nil=>intro o _ _;exact⟨[],LRel.nil G,fun i y h=>by simp at h⟩
 |cons v l ih=>
  intro o hE h;have hv:=hE v (List.mem_cons_self ..);have hlv:=(qo hv).1;have h1:CellsRel G (cellsOf v) c o:=fun k u hu=>h k u (by rw[vn,List.getElem?_append_left (List.getElem?_eq_some_iff.1 hu).1];exact hu)
  have h2:CellsRel G (flat l) c (o+n):=fun k u hu=>by
   obtain⟨y,hy,hr⟩:=h (n+k) u (by rw[vn,List.getElem?_append_right (by omega),hlv];rw[show n+k- n=k by omega];exact hu);exact⟨y,by rw[←hy];congr 1;omega,hr⟩
  obtain⟨y,hy,hyc⟩:=xem hv h1;obtain⟨ys,hys,hysc⟩:=ih (fun u hu=>hE u (List.mem_cons_of_mem _ hu)) h2;refine⟨y::ys,by simpa using (LRel.one hy).append hys,fun i z hz q x hx=> ?_⟩;cases i with
  |zero=>simp at hz;subst hz;simpa using hyc q x hx
  |succ i=>
   have:=hysc i z (by simpa using hz) q x hx;rw[←this];congr 1;rw[Nat.add_mul];omega
theorem ymj{G:Gh}{n:Nat}{c:Array Value}:∀{l:List V} {ys:List Value} {o:Nat},(∀v∈l,zg n v=true)→LRel G l ys→
  (∀(i:Nat) y,ys[i]? =some y→∀(q:Nat) x,y.cells[q]? =some x→c[o+i*n+q]? =some x)→CellsRel G (flat l) c o:=by
 intro l
 induction l with
 |nil=>intro ys o _ _ _ k u hu;simp[flat]at hu
 |cons v l ih=>
  intro ys o hE h hc;have hv:=hE v (List.mem_cons_self ..);have hlv:=(qo hv).1;obtain⟨y,hy,hr⟩:=h.get (i:=0) (v:=v) rfl;cases ys with
  |nil=>simp at hy
  |cons y' ys=>
   simp only[List.getElem?_cons_zero,Option.some.injEq]at hy;subst hy;obtain⟨e1,e2,_⟩:=hr.el hv;intro k u hu;rw[vn]at hu;by_cases hk:k<n
   ·rw[List.getElem?_append_left (by omega)]at hu
    obtain⟨x,hx,hrx⟩:=(q9.1 e2).get hu;refine⟨x,?_,hrx⟩;have:=hc 0 y' rfl k x (by simpa using hx);simpa using this
   ·rw[List.getElem?_append_right (by omega),hlv]at hu
    have ht:LRel G l ys:=by have:=h.drop 1;simpa using this
    obtain⟨x,hx,hrx⟩:=ih (o:=o+n) (fun u hu=>hE u (List.mem_cons_of_mem _ hu)) ht (fun i z hz q x hx=>by
     have:=hc (i+1) z (by simpa using hz) q x hx;rw[←this];congr 1;rw[Nat.add_mul];omega) (k- n) u hu
    exact⟨x,by rw[←hx];congr 1;omega,hrx⟩
theorem znc{fr:V→(V→Prog)→Prog}(hf:zkc T slot fr){id:Nat}{k:Nat→List V→Prog}{m:Mem}(h:Res slot (wa T fr id k) m x m'):
  ∃sz l m1,Res slot (k sz l) m1 x m'∧m1.S=m.S∧∀(G:Gh) (w:World),HeapRel G T w m.H m.Fz→MRel G T w→
   ∃G1 g c,Frozen T G w G1 m1∧pureL l=true∧G.R id= .live g∧g.sz=sz∧g.len=l.length∧G1.M g.blk=some (.cells c)∧(∀v∈l,zg sz v=true)∧CellsRel G1 (flat l) c 0:=by
 unfold wa at h;obtain⟨r,hr,h⟩:=h.get;split at h
 ·rename_i b fl ty l
  split at h
  ·obtain⟨i,hi,h⟩:=h.optP
   have h:=h.frz
      -- a flat row
   have hfin:∀(m0:Mem) (G:Gh) (w:World),m0.H[id]? =some (.cells b true ty l)→HeapRel G T w m0.H m0.Fz→MRel G T w→
     ∃G1 g c,Frozen T G w G1 ⟨m0.H,m0.Fz|||bit id,m0.S⟩∧pureL l=true∧G.R id= .live g∧g.sz=i.size∧g.len=l.length∧G1.M g.blk=some (.cells c)∧(∀v∈l,zg i.size v=true)∧CellsRel G1 (flat l) c 0:=by
    intro m0 G w hr hH hM;obtain⟨g,hg,h1,h2,h3,h4,h5,c,e,hc,hs,hcs,hz1,hz2⟩:=hH.rows id _ hr;obtain⟨s1,s2,s3,s4⟩:=yl0 hH hM hr hg hc;have hsz:g.sz=i.size:=by rw[h2];simp[Tab.size,hi]
    refine⟨_,g,c,⟨s1,s2,s3,rfl⟩,h5 rfl,hg,hsz,h1,s4,by rw[←hsz];exact h4,fun k u hu=> ?_⟩;obtain⟨y,hy,hr⟩:=hcs k u hu;exact⟨y,by simpa using hy,hr.mono s1.le⟩
   exact⟨i.size,l,_,h,rfl,fun G w hH hM=>hfin m G w hr hH hM⟩
  ·obtain⟨l',m1,h,hS,hl,hk,hg⟩:=zfb hf _ _ _ _ _ h
   obtain⟨i,hi,h⟩:=h.optP;obtain⟨hlt,h⟩:=h.set;have h:=h.frz;refine⟨i.size,l',_,h,hS,fun G w hH hM=> ?_⟩;obtain⟨G1,f1,hp,r1⟩:=hg G w hH hM;obtain⟨g,hgl,h1,h2,h3,h4,h5,c,e,hc,hs,hcs,hz1,hz2⟩:=hH.rows id _ hr;obtain⟨ys,hys,hysc⟩:=xel (o:=0) h4 fun k u hu=>by obtain⟨y,hy,hr⟩:=hcs k u hu;exact⟨y,by simpa using hy,hr⟩
   have hys':LRel G1 l' ys:=⟨by rw[hys.1,hl],fun q v' y hv' hy=>by
    have hq:q<l.length:=by rw[←hl];exact(List.getElem?_eq_some_iff.1 hv').1
    exact r1 q l[q] v' y (List.getElem?_eq_getElem hq) hv' (hys.2 q _ y (List.getElem?_eq_getElem hq) hy)⟩
   have hE':∀v∈l',zg g.sz v=true:=by
    intro v hv;obtain⟨q,hq,rfl⟩:=List.mem_iff_getElem.1 hv;have hq':q<l.length:=by rw[←hl];exact hq
    exact(hk q l[q] _ (List.getElem?_eq_getElem hq') (List.getElem?_eq_getElem hq)).el _ (h4 _ (List.getElem_mem hq'))
   have hfl:=ymj (o:=0) hE' hys' hysc;have hgl1:G1.R id= .live g:=by rw[f1.R];exact hgl
   have hrow:RowRel G1 T w m1.Fz id (.cells b true ty l'):=by
    refine⟨g,hgl1,by rw[hl];exact h1,h2,h3,hE',fun _=>hp,c,e,hc,hs,fun k u hu=>by obtain⟨y,hy,hr⟩:=hfl k u hu;exact⟨y,by simpa using hy,hr⟩,fun hz=>⟨rfl,?_⟩,fun hz=> ?_⟩
    ·obtain⟨r',hr',hrow',_⟩:=f1.heap.live hgl1
     cases r' with
     |free=>rw[hrow'.1]at hgl1;cases hgl1
     |dead=>exact absurd hgl1 (hrow' g)
     |cells b' fl' ty' l''=>
      obtain⟨g',hg',_,_,_,_,_,c',e',hc',_,_,hz1',_⟩:=hrow';rw[hgl1]at hg';cases hg';rw[hc]at hc';cases hc';exact(hz1' hz).2
     |map es=>obtain⟨_,_,_,hz',_⟩:=hrow';rw[hz]at hz';cases hz'
     |siter s p=>obtain⟨_,_,_,hz',_⟩:=hrow';rw[hz]at hz';cases hz'
     |miter v n q=>obtain⟨_,_,_,hz',_⟩:=hrow';rw[hz]at hz';cases hz'
    ·obtain⟨r',hr',hrow',_⟩:=f1.heap.live hgl1
     cases r' with
     |free=>rw[hrow'.1]at hgl1;cases hgl1
     |dead=>exact absurd hgl1 (hrow' g)
     |cells b' fl' ty' l''=>
      obtain⟨g',hg',_,_,_,_,_,c',e',hc',_,_,_,hz2'⟩:=hrow';rw[hgl1]at hg';cases hg';exact hz2' hz
     |map es=>obtain⟨g',hg',hz',_⟩:=hrow';rw[hgl1]at hg';cases hg';exact hz'
     |siter s p=>obtain⟨g',hg',hz',_⟩:=hrow';rw[hgl1]at hg';cases hg';exact hz'
     |miter v n q=>obtain⟨g',hg',hz',_⟩:=hrow';rw[hgl1]at hg';cases hg';exact hz'
   have hH2:=yy3 (m:=m1) f1.heap (List.getElem?_eq_getElem hlt) hrow;have hr2:(m1.H.set id (.cells b true ty l'))[id]? =some (.cells b true ty l'):=by simp[hlt]
   obtain⟨s1,s2,s3,s4⟩:=yl0 (m:=⟨m1.H.set id (.cells b true ty l'),m1.Fz,m1.S⟩) hH2 f1.mem hr2 hgl1 hc;have hsz:g.sz=i.size:=by rw[h2];simp[Tab.size,hi]
   refine⟨_,g,c,⟨f1.step.trans s1,s2,s3,f1.R⟩,hp,hgl,hsz,by rw[hl];exact h1,s4,by rw[←hsz];exact hE',hfl.mono s1.le⟩
 ·exact h.fail.elim
theorem zmc{v:V}{l:List V}(h:pureL l=true)(hv:idsV v=zi l):pureV v=true:=by unfold pureV pureL at*;rw[hv];exact h
theorem Rel.slOf{G:Gh}{sz:Nat}{l:List V}{b o cap:Nat}{c:Array Value}(hcap:l.length≤cap)(hp:pureL l=true)(hE:∀v∈l,zg sz v=true)(hM:G.M b=some (.cells c))(hc:CellsRel G (flat l) c o):
  Rel G (.sl true sz l) (.slice (some ⟨b,o,none⟩) l.length cap):=by
 have hf:∀k u,(flat l)[k]? =some u→c[o+k]? =some (c.getD (o+k) Go.undef):=fun k u hu=>by
  obtain⟨y,hy,_⟩:=hc k u hu;rw[Array.getD_eq_getD_getElem?,hy];rfl
 refine .sl sz l b o cap (fun k=>c.getD (o+k) Go.undef) hcap hp hE (fun k u hu=> ?_) (fun k u hu=> ?_)
 ·simp only[Gh.rd,hM,Option.bind_some];exact hf k u hu
 ·obtain⟨y,hy,hr⟩:=hc k u hu
  simp only[Array.getD_eq_getD_getElem?,hy,Option.getD_some];exact hr
theorem Rel.ppOf{G:Gh}{sz:Nat}{l:List V}{b o i j:Nat}{c:Array Value}(hp:pureL l=true)(hE:∀v∈l,zg sz v=true)(hM:G.M b=some (.cells c))(hc:CellsRel G (flat l) c o):
  Rel G (.pp sz l i j) (.pointer (some ⟨b,o+(i*sz+j),none⟩)):=by
 have hf:∀k u,(flat l)[k]? =some u→c[o+k]? =some (c.getD (o+k) Go.undef):=fun k u hu=>by
  obtain⟨y,hy,_⟩:=hc k u hu;rw[Array.getD_eq_getD_getElem?,hy];rfl
 refine .pp sz l i j b o (fun k=>c.getD (o+k) Go.undef) hp hE (fun k u hu=> ?_) (fun k u hu=> ?_)
 ·simp only[Gh.rd,hM,Option.bind_some];exact hf k u hu
 ·obtain⟨y,hy,hr⟩:=hc k u hu
  simp only[Array.getD_eq_getD_getElem?,hy,Option.getD_some];exact hr
theorem CellsRel.sub{G:Gh}{l:List V}{n:Nat}{c:Array Value}{o:Nat}(hE:∀v∈l,zg n v=true)(h:CellsRel G (flat l) c o)(a b:Nat):CellsRel G (flat ((l.drop a).take b)) c (o+a*n):=by
 intro k u hu;have hE':∀v∈l.drop a,zg n v=true:=fun v hv=>hE v (List.mem_of_mem_drop hv);rw[zds hE',zh2 hE]at hu;obtain⟨h1,_⟩:=getElem?_part hu;obtain⟨y,hy,hr⟩:=h _ u h1;exact⟨y,by rw[←hy];congr 1;omega,hr⟩
theorem ys8{l:List V}(h:pureL l=true)(a b:Nat):pureL ((l.drop a).take b)=true:=
 pureL_iff.2 fun v hv=>pureL_iff.1 h v (List.mem_of_mem_drop (List.mem_of_mem_take hv))
theorem ylv{n:Nat}{l:List V}(h:∀v∈l,zg n v=true)(a b:Nat):∀v∈(l.drop a).take b,zg n v=true:=
 fun v hv=>h v (List.mem_of_mem_drop (List.mem_of_mem_take hv))
theorem zne:∀(n:Nat),zkc T slot (frzP T n):=by
 intro n
 induction n with
 |zero=>intro v k m x m' h;exact h.fail.elim
 |succ n ih=>
  intro v k m x m' h
  have stay:∀(v:V),pureV v=true→Res slot (k v) m x m'→∃v' m1,Res slot (k v') m1 x m'∧m1.S=m.S∧Keep v v'∧
    ∀(G:Gh) (w:World),HeapRel G T w m.H m.Fz→MRel G T w→∃G1,Frozen T G w G1 m1∧pureV v'=true∧∀y,Rel G v y→Rel G1 v' y:=
   fun v hp h=>⟨v,m,h,rfl,.refl v,fun G w hH hM=>⟨G,.refl hH hM,hp,fun y hy=>hy⟩⟩
  unfold frzP at h;split at h
  ·rename_i id
   obtain⟨sz,l,m1,h,hS,hg⟩:=znc ih h;refine⟨_,m1,h,hS,.cells rfl rfl,fun G w hH hM=> ?_⟩;obtain⟨G1,g,c,f,hp,hgl,rfl,hlen,hMb,hE,hc⟩:=hg G w hH hM;refine⟨G1,f,rfl,fun y hy=> ?_⟩;cases hy with|ref _ a n cap hf ha=>
   obtain⟨rfl,rfl,hcap,_⟩:=ha g hgl;rw[hlen]at hcap⊢;exact .slOf hcap hp hE hMb hc
  ·rename_i id a b
   obtain⟨sz,l,m1,h,hS,hg⟩:=znc ih h;refine⟨_,m1,h,hS,.cells rfl rfl,fun G w hH hM=> ?_⟩;obtain⟨G1,g,c,f,hp,hgl,rfl,hlen,hMb,hE,hc⟩:=hg G w hH hM;refine⟨G1,f,rfl,fun y hy=> ?_⟩;cases hy with|sub _ _ _ ad cap hf hcb ha=>
   obtain⟨⟨hle,hlc,hroom⟩,⟨b1,o1,s1⟩,rfl,hb1,hs1,ho1⟩:=ha g hgl;simp only at hb1 hs1 ho1;subst hb1;subst hs1;have hl:((l.drop a).take b).length=b:=by rw[List.length_take,List.length_drop];omega
   have hcs:=hc.sub hE a b;by_cases hb0:b=0
   ·subst hb0
    have:=Rel.slOf (G:=G1) (sz:=g.sz) (l:= []) (b:=g.blk) (o:=o1) (cap:=cap) (c:=c) (by simp) rfl (by simp) hMb (fun k u hu=>by simp[flat]at hu);simpa using this
   ·rw[ho1 (by omega)]
    have:=Rel.slOf (cap:=cap) (by rw[hl];exact hcb) (ys8 hp a b) (ylv hE a b) hMb (by simpa using hcs);rw[hl]at this;exact this
  ·rename_i id i j
   obtain⟨sz,l,m1,h,hS,hg⟩:=znc ih h;refine⟨_,m1,h,hS,.cells rfl rfl,fun G w hH hM=> ?_⟩;obtain⟨G1,g,c,f,hp,hgl,rfl,hlen,hMb,hE,hc⟩:=hg G w hH hM;refine⟨G1,f,rfl,fun y hy=> ?_⟩;cases hy with|ptr _ _ _ b0 o0 hf ha=>
   obtain⟨rfl,rfl⟩:=ha g hgl;have:=Rel.ppOf (i:=i) (j:=j) hp hE hMb hc;simpa using this
  ·exact h.fail.elim
  ·exact h.fail.elim
  ·rename_i f c
   obtain⟨l',m1,h,hS,hl,hk,hg⟩:=zfb ih _ _ _ _ _ h;refine⟨_,m1,h,hS,.cells rfl rfl,fun G w hH hM=> ?_⟩;obtain⟨G1,f1,hp,r1⟩:=hg G w hH hM;refine⟨G1,f1,zmc hp (by simp[idsV]),fun y hy=> ?_⟩;cases hy with
   |fn _ _ a hs ha=>
    refine .fn f l' a (by rw[hs,hl]) fun i v' y hv' hy=> ?_;have hi:i<c.length:=by rw[←hl];exact(List.getElem?_eq_some_iff.1 hv').1
    exact r1 i c[i] v' y (List.getElem?_eq_getElem hi) hv' (ha i _ y (List.getElem?_eq_getElem hi) hy)
   |mth _ n first a hs ha=>
    obtain⟨m,l2,rfl⟩:∃m l2,l'= .yld m::l2:=by
     cases l' with
     |nil=>simp at hl
     |cons u l2=>
      have h0:=(hk 0 (.yld n) u rfl rfl).yld;cases u<;>first|exact⟨_,_,rfl⟩|simp[zm]at h0
    refine .mth f m l2 a (by simp at hl;rw[hs,hl]) fun i v' y hv' hy=> ?_;have hi:i<first.length:=by simp at hl;rw[←hl];exact(List.getElem?_eq_some_iff.1 hv').1
    exact r1 (i+1) first[i] v' y (by simp[List.getElem?_eq_getElem hi]) (by simpa using hv') (ha i _ y (List.getElem?_eq_getElem hi) hy)
  ·rename_i t u
   obtain⟨v',m1,h,hS,hk,hg⟩:=ih _ _ _ _ _ h;refine⟨_,m1,h,hS,.cells rfl rfl,fun G w hH hM=> ?_⟩;obtain⟨G1,f1,hp,r1⟩:=hg G w hH hM;refine⟨G1,f1,by simpa[pureV,idsV]using hp,fun y hy=> ?_⟩;cases hy with|iface _ _ z hz=>exact .iface t v' z (r1 z hz)
  ·rename_i cs
   obtain⟨l',m1,h,hS,hl,hk,hg⟩:=zfb ih _ _ _ _ _ h;refine⟨_,m1,h,hS,⟨fun hc=>by simp[isCell]at hc,fun n hn=> ?_,rfl,fun n hn=>by cases hn⟩,fun G w hH hM=> ?_⟩
   ·simp only[zg,Bool.and_eq_true,List.all_eq_true]at hn⊢
    refine⟨by rw[hl];exact hn.1,fun u hu=> ?_⟩;obtain⟨i,hi,rfl⟩:=List.mem_iff_getElem.1 hu;have hi':i<cs.length:=by rw[←hl];exact hi
    exact(hk i cs[i] _ (List.getElem?_eq_getElem hi') (List.getElem?_eq_getElem hi)).cell (hn.2 _ (List.getElem_mem hi'))
   ·obtain⟨G1,f1,hp,r1⟩:=hg G w hH hM
    refine⟨G1,f1,zmc hp (by simp[idsV]),fun y hy=> ?_⟩;cases hy with|agg _ a hs ha=>
    refine .agg l' a (by rw[hs,hl]) fun i v' y hv' hy=> ?_;have hi:i<cs.length:=by rw[←hl];exact(List.getElem?_eq_some_iff.1 hv').1
    exact r1 i cs[i] v' y (List.getElem?_eq_getElem hi) hv' (ha i _ y (List.getElem?_eq_getElem hi) hy)
  ·rename_i cs
   obtain⟨l',m1,h,hS,hl,hk,hg⟩:=zfb ih _ _ _ _ _ h;refine⟨_,m1,h,hS,⟨fun hc=>by simp[isCell]at hc,fun n hn=>by simp[zg,isCell]at hn,rfl,fun n hn=>by cases hn⟩,fun G w hH hM=> ?_⟩;obtain⟨G1,f1,hp,r1⟩:=hg G w hH hM;refine⟨G1,f1,zmc hp (by simp[idsV]),fun y hy=> ?_⟩;cases hy with|tup _ a hs ha=>
   refine .tup l' a (by rw[hs,hl]) fun i v' y hv' hy=> ?_;have hi:i<cs.length:=by rw[←hl];exact(List.getElem?_eq_some_iff.1 hv').1
   exact r1 i cs[i] v' y (List.getElem?_eq_getElem hi) hv' (ha i _ y (List.getElem?_eq_getElem hi) hy)
  ·refine stay v ?_ h
   cases v<;>first|rfl|(exfalso;simp_all;done)
theorem zkk:zkc T slot (vd T):=by
 intro v k m x m' h;unfold vd at h;split at h
 ·rename_i hp
  exact⟨v,m,h,rfl,.refl v,fun G w hH hM=>⟨G,.refl hH hM,hp,fun y hy=>hy⟩⟩
 ·exact zne _ v k m x m' h
theorem zgg{l:List V}{k:List V→Prog}{m:Mem}(h:Res slot (stowLP T l k) m x m'):
  ∃l' m1,Res slot (k l') m1 x m'∧m1.S=m.S∧l'.length=l.length∧(∀(i:Nat) v v',l[i]? =some v→l'[i]? =some v'→Keep v v')∧
   ∀(G:Gh) (w:World),HeapRel G T w m.H m.Fz→MRel G T w→∃G1,Frozen T G w G1 m1∧pureL l'=true∧∀(i:Nat) v v' y,l[i]? =some v→l'[i]? =some v'→Rel G v y→Rel G1 v' y:=by
 unfold stowLP at h;split at h
 ·rename_i hp
  refine⟨l,m,h,rfl,rfl,fun i v v' hv hv'=> ?_,fun G w hH hM=>⟨G,.refl hH hM,hp,fun i v v' y hv hv' hy=> ?_⟩⟩
  ·rw[hv]at hv';cases hv';exact .refl v
  ·rw[hv]at hv';cases hv';exact hy
 ·exact zfb (zne _) _ _ _ _ _ h
end
end Go.Den
