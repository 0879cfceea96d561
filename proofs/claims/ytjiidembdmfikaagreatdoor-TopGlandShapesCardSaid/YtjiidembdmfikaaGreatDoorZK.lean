import Derived.Test.YtjiidembdmfikaaGreatDoorZJ
set_option linter.all false
set_option maxHeartbeats 8000000
set_option maxRecDepth 100000
namespace Go.Den
open Go
section
variable {P:Program} {T:Tab} {slot:Option Nat} {m m':Mem} {x:V} {ih:Ih}
theorem blt_iff{a b:Nat}:Nat.blt a b=true↔a<b:=by rw[Nat.blt_eq]
theorem ykx{H:zj}:∀(ids:List Nat),(pick H ids).length=ids.length
 | []=>rfl
 |a::r=>by simp[pick,ykx r]
theorem zb5{l:List V}{id:Nat}(h:id∈zi l):∃v∈l,id∈idsV v:=by
 induction l with
 |nil=>simp[zi]at h
 |cons u l ih=>
  simp only[zi,List.mem_append]at h;rcases h with h|h
  ·exact⟨u,List.mem_cons_self ..,h⟩
  ·obtain⟨v,hv,hi⟩:=ih h;exact⟨v,List.mem_cons_of_mem _ hv,hi⟩
theorem Rel.ids{G:Gh}{v:V}{y:Value}(h:Rel G v y):∀id∈idsV v,G.R id≠ .fresh:=by
 induction h with
 |ref id a n cap hf h=>intro i hi;simp[idsV]at hi;subst hi;exact hf
 |sub id off n a cap hf hc h=>intro i hi;simp[idsV]at hi;subst hi;exact hf
 |ptr id i j b o hf h=>intro i' hi;simp[idsV]at hi;subst hi;exact hf
 |map id r hf h=>intro i hi;simp[idsV]at hi;subst hi;exact hf
 |it id a hf h=>intro i hi;simp[idsV]at hi;subst hi;exact hf
 |fn f cap a hs h ih=>
  intro i hi;simp only[idsV]at hi;obtain⟨v,hv,hi⟩:=zb5 hi;obtain⟨k,hk,rfl⟩:=List.mem_iff_getElem.1 hv;have hk':k<a.size:=by omega
  exact ih k _ _ (List.getElem?_eq_getElem hk) (Array.getElem?_eq_getElem hk') i hi
 |mth f n cap a hs h ih=>
  intro i hi;simp only[idsV,zi,List.nil_append]at hi;obtain⟨v,hv,hi⟩:=zb5 hi;obtain⟨k,hk,rfl⟩:=List.mem_iff_getElem.1 hv;have hk':k<a.size:=by omega
  exact ih k _ _ (List.getElem?_eq_getElem hk) (Array.getElem?_eq_getElem hk') i hi
 |iface t v x h ih=>intro i hi;exact ih i (by simpa[idsV]using hi)
 |agg cs a hs h ih=>
  intro i hi;simp only[idsV]at hi;obtain⟨v,hv,hi⟩:=zb5 hi;obtain⟨k,hk,rfl⟩:=List.mem_iff_getElem.1 hv;have hk':k<a.size:=by omega
  exact ih k _ _ (List.getElem?_eq_getElem hk) (Array.getElem?_eq_getElem hk') i hi
 |tup cs a hs h ih=>
  intro i hi;simp only[idsV]at hi;obtain⟨v,hv,hi⟩:=zb5 hi;obtain⟨k,hk,rfl⟩:=List.mem_iff_getElem.1 hv;have hk':k<a.size:=by omega
  exact ih k _ _ (List.getElem?_eq_getElem hk) (Array.getElem?_eq_getElem hk') i hi
 |_=>intro i hi;simp[idsV]at hi
theorem RelLT.ids{G:Gh}{Os:List OG}{args:List V}{xs:Array Value}(h:RelLT G Os args xs):∀id∈zi args,G.R id≠ .fresh:=by
 intro id hid;obtain⟨v,hv,hi⟩:=zb5 hid;obtain⟨k,hk,rfl⟩:=List.mem_iff_getElem.1 hv;have hk':k<xs.size:=by have:=h.1;simp at this;omega
 have hr:=h.2 k _ xs[k] (List.getElem?_eq_getElem hk) (by simp[hk']);cases hy:zm args[k]with
 |false=>exact(hr.rel hy).ids id hi
 |true=>
  cases ha:args[k]<;>rw[ha]at hy hi<;>simp[zm]at hy;simp[idsV]at hi
theorem yr6{G:Gh}{w:World}{H:zj}{Fz:Nat}(hH:HeapRel G T w H Fz){id:Nat}{r:Row}(hr:H[id]? =some r):∀i∈wx r,G.R i≠ .fresh:=by
 intro i hi;have hrow:=hH.rows id r hr;cases r with
 |cells b f t l=>
  cases f with
  |true=>simp[wx]at hi
  |false=>
   simp only[wx]at hi;obtain⟨g,hg,h1,h2,h3,h4,h5,c,e,hc,hs,hcs,_⟩:=hrow;obtain⟨v,hv,hi⟩:=zb5 hi
   have:∃u∈cellsOf v,i∈idsV u:=by
    cases v with
    |agg cs=>simp only[idsV]at hi;obtain⟨u,hu,hi⟩:=zb5 hi;exact⟨u,hu,hi⟩
    |_=>exact⟨_,List.mem_singleton.2 rfl,hi⟩
   obtain⟨u,hu,hi⟩:=this;have hm:u∈flat l:=List.mem_flatMap.2 ⟨v,hv,hu⟩;obtain⟨k,hk,rfl⟩:=List.mem_iff_getElem.1 hm;obtain⟨x,_,hx⟩:=hcs k _ (List.getElem?_eq_getElem hk);exact hx.ids i hi
 |_=>simp[wx]at hi
theorem yss{H:zj}{p:Nat→Prop}(hstep:∀(id:Nat) (r:Row),H[id]? =some r→∀i∈wx r,p i):∀(n:Nat) (work seen ids:List Nat),reach n work seen H=some ids→(∀i∈work,p i)→(∀i∈seen,p i)→∀i∈ids,p i:=by
 intro n
 induction n with
 |zero=>intro work seen ids h;simp[reach]at h
 |succ n ih=>
  intro work seen ids h hw hs;simp only[reach]at h;split at h
  ·simp only[Option.some.injEq]at h;subst h;intro i hi;exact hs i (by simpa using hi)
  ·rename_i id wk
   have hwk:∀i∈wk,p i:=fun i hi=>hw i (List.mem_cons_of_mem _ hi);have hs':∀i∈id::seen,p i:=fun i hi=>(List.mem_cons.1 hi).elim (fun e=>e▸hw id (List.mem_cons_self ..)) (hs i);split at h
   ·exact ih _ _ _ h hwk hs
   ·split at h
    ·rename_i b ty l hr
     refine ih _ _ _ h (fun i hi=> ?_) hs';rcases List.mem_append.1 hi with hi|hi
     ·exact hstep id _ hr i hi
     ·exact hwk i hi
    ·exact ih _ _ _ h hwk hs'
    ·cases h
theorem yla{n x:Nat}:∀{l:List Nat},x∈xy n l↔x∈l∧n≤x:=by
 intro l
 induction l with
 |nil=>simp[xy]
 |cons a l ih=>
  unfold xy;cases hb:Nat.blt a n with
  |true=>
   have:a<n:=blt_iff.1 hb;simp only[ih,List.mem_cons];constructor
   ·rintro⟨h1,h2⟩;exact⟨.inr h1,h2⟩
   ·rintro⟨rfl|h1,h2⟩
    ·omega
    ·exact⟨h1,h2⟩
  |false=>
   have:¬a<n:=by intro h;rw[blt_iff.2 h]at hb;cases hb
   simp only[ih,List.mem_cons];constructor
   ·rintro(rfl|⟨h1,h2⟩)
    ·exact⟨.inl rfl,by omega⟩
    ·exact⟨.inr h1,h2⟩
   ·rintro⟨rfl|h1,h2⟩
    ·exact .inl rfl
    ·exact .inr ⟨h1,h2⟩
theorem yu0{n:Nat}:∀{l:List Nat},l.Nodup→(xy n l).Nodup:=by
 intro l
 induction l with
 |nil=>intro h;exact h
 |cons a l ih=>
  intro h;obtain⟨h1,h2⟩:=List.nodup_cons.1 h;unfold xy;cases Nat.blt a n with
  |true=>exact ih h2
  |false=>exact List.nodup_cons.2 ⟨fun hm=>h1 (yla.1 hm).1,ih h2⟩
theorem ylx{ids:List Nat}(hnd:ids.Nodup){j id:Nat}(h:ids[j]? =some id):idx ids id=j:=by
 have h2:=zm3 (List.mem_of_getElem? h);exact((List.getElem?_inj (List.getElem?_eq_some_iff.1 h).1 hnd).1 (h.trans h2.symm)).symm
theorem HeapRel.fz_iff{G:Gh}{w:World}{H:zj}{Fz:Nat}(h:HeapRel G T w H Fz){id:Nat}{g:RG}(hg:G.R id= .live g):Fz.testBit id=true↔G.M g.blk≠none:=by
 obtain⟨r,hr,hrow,_⟩:=h.live hg;cases r with
 |free=>rw[hrow.1]at hg;cases hg
 |dead=>exact absurd hg (hrow g)
 |cells b fl ty l=>
  obtain⟨g',hg',_,_,_,_,_,c,e,hc,_,_,hz1,hz2⟩:=hrow;rw[hg]at hg';cases hg';constructor
  ·intro hz;rw[(hz1 hz).2];simp
  ·intro hm
   cases hz:Fz.testBit id with
   |true=>rfl
   |false=>exact absurd (hz2 hz) hm
 |map es=>
  obtain⟨g',hg',hm,hz,_⟩:=hrow;rw[hg]at hg';cases hg';simp[hm,hz]
 |siter s p=>
  obtain⟨g',hg',hm,hz,_⟩:=hrow;rw[hg]at hg';cases hg';simp[hm,hz]
 |miter v n q=>
  obtain⟨g',hg',hm,hz,_⟩:=hrow;rw[hg]at hg';cases hg';simp[hm,hz]
def Gh.backR(G Gc:Gh)(ids new:List Nat)(b:Nat):Gh:=
 ⟨Gc.M,fun id=>if id∈ids then Gc.R (idx ids id)else if b≤id∧id- b<new.length then Gc.R (new.getD (id- b) 0)else G.R id⟩
theorem xh8{G Gc:Gh}{Os Os':List OG}{w w':World}{H':zj}{Fz':Nat}{S':xb}{mA mB mC:Mem}{ids rs:List Nat}{b:Nat}
  (hg:Good T G Os w m)(hcl:Closed m.H ids)(hnf:∀id∈ids,G.R id≠ .fresh)(hst:Stp (fun _=>False) (G.pickR ids) Os w Gc Os' w')(hgd:Good T Gc Os' w' ⟨H',Fz',S'⟩)
  (hrs:Closed H' rs)(hrange:∀x,x<ids.length→x∈rs)
  (hA:SetAt m mA ids (xh (z6 ids (xy ids.length rs) b) (H'.take ids.length)))
  (hB:NewsAt mA mB b (xh (z6 ids (xy ids.length rs) b) (pick H' (xy ids.length rs))))
  (hCH:mC.H=mB.H)(hCz:∀t,mC.Fz.testBit t=true↔mB.Fz.testBit t=true∨∃y∈rs,Fz'.testBit y=true∧z6 ids (xy ids.length rs) b y=t):
  Stp (fun _=>False) G Os w (G.backR Gc ids (xy ids.length rs) b) Os' w'∧Good T (G.backR Gc ids (xy ids.length rs) b) Os' w' ⟨mC.H,mC.Fz,S'⟩∧
   ∀v y,Rel Gc v y→(∀id∈idsV v,id∈rs)→Rel (G.backR Gc ids (xy ids.length rs) b) (xz (z6 ids (xy ids.length rs) b) v) y:=by
 generalize hnew:xy ids.length rs=new at*;have hnm:∀x,x∈new↔x∈rs∧ids.length≤x:=fun x=>by rw[←hnew];exact yla
 have hnnd:new.Nodup:=by rw[←hnew];exact yu0 hrs.nodup
  -- where the rows go
 have back1:∀(j:Nat) id,ids[j]? =some id→z6 ids new b j=id:=by
  intro j id hid;have hj:j<ids.length:=(List.getElem?_eq_some_iff.1 hid).1;unfold z6;rw[blt_iff.2 hj,hid]
 have back2:∀(n:Nat) x,new[n]? =some x→z6 ids new b x=b+n:=by
  intro n x hx;have hge:=((hnm x).1 (List.mem_of_getElem? hx)).2;unfold z6
  have:Nat.blt x ids.length=false:=by
   cases hq:Nat.blt x ids.length with
   |false=>rfl
   |true=>have:=blt_iff.1 hq;omega
  rw[this,ylx hnnd hx]
 have cls:∀x∈rs,(∃id,ids[x]? =some id)∨∃n:Nat,new[n]? =some x:=by
  intro x hx;by_cases h:x<ids.length
  ·exact .inl ⟨_,List.getElem?_eq_getElem h⟩
  ·exact .inr ⟨_,zm3 ((hnm x).2 ⟨hx,by omega⟩)⟩
  -- rows of the callee
 have rowC:∀x∈rs,∃r,H'[x]? =some r:=fun x hx=>let⟨r,hr,_⟩:=hrs.row x hx;⟨r,hr⟩;have hlive:∀(j:Nat) id,ids[j]? =some id→(G.pickR ids).R j=G.R id:=fun j id hid=>by simp[Gh.pickR,hid]
 have hGcnf:∀(j:Nat) id,ids[j]? =some id→Gc.R j≠ .fresh:=fun j id hid=>(hst.le.R j (by rw[hlive j id hid];exact hnf id (List.mem_of_getElem? hid))).1
 have setA:∀(j:Nat) id r,ids[j]? =some id→H'[j]? =some r→mA.H[id]? =some (qg (z6 ids new b) r):=by
  intro j id r hid hr;refine hA.at_ j id _ hid ?_;have hj:j<ids.length:=(List.getElem?_eq_some_iff.1 hid).1;rw[zdl,List.getElem?_map,List.getElem?_take,if_pos hj,hr];rfl
 have newRow:∀(n:Nat) x r,new[n]? =some x→H'[x]? =some r→mB.H[b+n]? =some (qg (z6 ids new b) r)∧(mA.H[b+n]? =none∨mA.H[b+n]? =some .free):=by
  intro n x r hx hr;refine hB.at_ n _ ?_;rw[zdl,List.getElem?_map,yky,hx];simp[hr]
 have mapFree:∀r,qg (z6 ids new b) r= .free→r= .free:=by
  intro r h;cases r with
  |cells b f t l=>cases f<;>simp[qg]at h
  |_=>first|rfl|simp[qg]at h
 have newNot:∀(n:Nat) x,new[n]? =some x→b+n∉ids:=by
  intro n x hx hm;obtain⟨j,hj⟩:=List.mem_iff_getElem?.1 hm;obtain⟨r,hr⟩:=rowC x ((hnm x).1 (List.mem_of_getElem? hx)).1;obtain⟨rj,hrj⟩:=rowC j (hrange j (List.getElem?_eq_some_iff.1 hj).1);have h1:=setA j _ rj hj hrj;rcases(newRow n x r hx hr).2 with h|h
  ·rw[h1]at h;cases h
  ·rw[h1]at h
   have:=mapFree rj (by simpa using h);subst this;exact hGcnf j _ hj (hgd.heap.rows j _ hrj).1
 have newOld:∀(n:Nat) x,new[n]? =some x→(m.H[b+n]? =none∨m.H[b+n]? =some .free)∧G.R (b+n)= .fresh∧m.Fz.testBit (b+n)=false:=by
  intro n x hx;obtain⟨r,hr⟩:=rowC x ((hnm x).1 (List.mem_of_getElem? hx)).1;have h:=(newRow n x r hx hr).2;rw[hA.else_ _ (newNot n x hx)]at h;refine⟨h,?_⟩;rcases h with h|h
  ·refine⟨hg.heap.out _ h,?_⟩
   cases hz:m.Fz.testBit (b+n)with
   |false=>rfl
   |true=>have:=hg.heap.fz _ hz;rw[List.getElem?_eq_getElem this]at h;cases h
  ·exact hg.heap.rows _ _ h
  -- the ghost data
 have R1:∀(j:Nat) id,ids[j]? =some id→(G.backR Gc ids new b).R id=Gc.R j:=by
  intro j id hid;simp only[Gh.backR,if_pos (List.mem_of_getElem? hid),ylx hcl.nodup hid]
 have R2:∀(n:Nat) x,new[n]? =some x→(G.backR Gc ids new b).R (b+n)=Gc.R x:=by
  intro n x hx;have hn:n<new.length:=(List.getElem?_eq_some_iff.1 hx).1;simp only[Gh.backR,if_neg (newNot n x hx)];rw[if_pos ⟨by omega,by omega⟩];congr 1;rw[Nat.add_sub_cancel_left,List.getD_eq_getElem?_getD,hx];rfl
 have R3:∀id,id∉ids→(∀n,n<new.length→id≠b+n)→(G.backR Gc ids new b).R id=G.R id:=by
  intro id h1 h2;simp only[Gh.backR,if_neg h1];rw[if_neg];rintro⟨h3,h4⟩;exact h2 (id- b) h4 (by omega)
 have key:∀x∈rs,(G.backR Gc ids new b).R (z6 ids new b x)=Gc.R x:=by
  intro x hx;rcases cls x hx with⟨id,hid⟩|⟨n,hn⟩
  ·rw[back1 x id hid];exact R1 x id hid
  ·rw[back2 n x hn];exact R2 n x hn
 have trich:∀id,(∃j:Nat,ids[j]? =some id)∨(∃(n x:Nat),id=b+n∧new[n]? =some x)∨(id∉ids∧∀n,n<new.length→id≠b+n):=by
  intro id;by_cases h1:id∈ids
  ·exact .inl (List.mem_iff_getElem?.1 h1)
  ·by_cases h2:∃n,n<new.length∧id=b+n
   ·obtain⟨n,hn,rfl⟩:=h2
    exact .inr (.inl ⟨n,_,rfl,List.getElem?_eq_getElem hn⟩)
   ·exact .inr (.inr ⟨h1,fun n hn e=>h2 ⟨n,hn,e⟩⟩)
 have hBfz:mB.Fz=m.Fz:=hB.fz.trans hA.fz
 have rowsLen:(xh (z6 ids new b) (pick H' new)).length=new.length:=by
  rw[zdl,List.length_map,ykx]
 have H1:∀(j:Nat) id r,ids[j]? =some id→H'[j]? =some r→mC.H[id]? =some (qg (z6 ids new b) r):=by
  intro j id r hid hr;rw[hCH,hB.else_ id (fun n hn e=> ?_)]
  ·exact setA j id r hid hr
  ·rw[rowsLen]at hn
   exact newNot n _ (List.getElem?_eq_getElem hn) (e▸List.mem_of_getElem? hid)
 have H2:∀(n:Nat) x r,new[n]? =some x→H'[x]? =some r→mC.H[b+n]? =some (qg (z6 ids new b) r):=by
  intro n x r hx hr;rw[hCH];exact(newRow n x r hx hr).1
 have H3:∀id,id∉ids→(∀n,n<new.length→id≠b+n)→mC.H[id]? =m.H[id]? :=by
  intro id h1 h2;rw[hCH,hB.else_ id (fun n hn=>h2 n (by rw[rowsLen]at hn;exact hn)),hA.else_ id h1]
  -- frozen rows
 have backEq:∀y∈rs,∀x∈rs,z6 ids new b y=z6 ids new b x→y=x:=by
  intro y hy x hx he;rcases cls y hy with⟨i1,h1⟩|⟨n1,h1⟩
  ·rcases cls x hx with⟨i2,h2⟩|⟨n2,h2⟩
   ·rw[back1 _ _ h1,back1 _ _ h2]at he
    subst he;exact(List.getElem?_inj (List.getElem?_eq_some_iff.1 h1).1 hcl.nodup).1 (h1.trans h2.symm)
   ·rw[back1 _ _ h1,back2 _ _ h2]at he
    exact absurd (he▸List.mem_of_getElem? h1) (newNot n2 x h2)
  ·rcases cls x hx with⟨i2,h2⟩|⟨n2,h2⟩
   ·rw[back2 _ _ h1,back1 _ _ h2]at he
    exact absurd (he▸List.mem_of_getElem? h2) (newNot n1 y h1)
   ·rw[back2 _ _ h1,back2 _ _ h2]at he
    have:n1=n2:=by omega
    subst this;rw[h1]at h2;cases h2;rfl
 have fzx:∀x∈rs,mC.Fz.testBit (z6 ids new b x)=true↔m.Fz.testBit (z6 ids new b x)=true∨Fz'.testBit x=true:=by
  intro x hx;rw[hCz,hBfz];constructor
  ·rintro(h|⟨y,hy,hz,he⟩)
   ·exact .inl h
   ·rw[backEq y hy x hx he]at hz;exact .inr hz
  ·rintro(h|h)
   ·exact .inl h
   ·exact .inr ⟨x,hx,h,rfl⟩
 have fz3:∀id,id∉ids→(∀n,n<new.length→id≠b+n)→mC.Fz.testBit id=m.Fz.testBit id:=by
  intro id h1 h2
  have:mC.Fz.testBit id=true↔m.Fz.testBit id=true:=by
   rw[hCz,hBfz];constructor
   ·rintro(h|⟨y,hy,hz,he⟩)
    ·exact h
    ·rcases cls y hy with⟨i1,h3⟩|⟨n1,h3⟩
     ·rw[back1 _ _ h3]at he;exact absurd (he▸List.mem_of_getElem? h3) h1
     ·rw[back2 _ _ h3]at he;exact absurd he.symm (h2 n1 (List.getElem?_eq_some_iff.1 h3).1)
   ·exact .inl
  exact Bool.eq_iff_iff.2 this
  -- one step of the ghost data
 have hle:G.le (G.backR Gc ids new b):=by
  refine⟨hst.le.M,fun id hid=> ?_⟩;rcases trich id with⟨j,hj⟩|⟨n,x,rfl,hx⟩|⟨h1,h2⟩
  ·rw[R1 j id hj]
   have:=hst.le.R j (by rw[hlive j id hj];exact hid);rw[hlive j id hj]at this;exact this
  ·exact absurd (newOld n x hx).2.1 hid
  ·rw[R3 id h1 h2];exact⟨hid,fun g hg=>hg⟩
 have pickOwn:∀b,(G.pickR ids).owns b→G.owns b:=fun b hb=>zbf hb
  -- blocks of rows that were not handed on
 have oldBlk:∀id g,id∉ids→G.R id= .live g→g.blk<w.heap.size∧¬(G.pickR ids).owns g.blk∧¬frn Os g.blk:=by
  intro id g h1 h2;have ho:G.owns g.blk:=⟨id,g,h2,rfl⟩;refine⟨hg.heap.lt ho,?_,hg.sep _ ho⟩;rintro⟨j,g',hj,hb⟩;simp only[Gh.pickR]at hj;cases hid:ids[j]? with
  |none=>rw[hid]at hj;cases hj
  |some id'=>
   rw[hid]at hj;exact h1 (hg.heap.inj id id' g g' h2 hj hb.symm▸List.mem_of_getElem? hid)
 have live3:∀id g,(G.backR Gc ids new b).R id= .live g→(∃x∈rs,z6 ids new b x=id∧Gc.R x= .live g)∨(id∉ids∧(∀n,n<new.length→id≠b+n)∧G.R id= .live g):=by
  intro id g hl;rcases trich id with⟨j,hj⟩|⟨n,x,rfl,hx⟩|⟨h1,h2⟩
  ·rw[R1 j id hj]at hl;exact .inl ⟨j,hrange j (List.getElem?_eq_some_iff.1 hj).1,back1 j id hj,hl⟩
  ·rw[R2 n x hx]at hl;exact .inl ⟨x,((hnm x).1 (List.mem_of_getElem? hx)).1,back2 n x hx,hl⟩
  ·rw[R3 id h1 h2]at hl;exact .inr ⟨h1,h2,hl⟩
 have owns3:∀b',(G.backR Gc ids new b).owns b'→Gc.owns b'∨∃id g,id∉ids∧G.R id= .live g∧g.blk=b':=by
  rintro b' ⟨id,g,hl,hb⟩;rcases live3 id g hl with⟨x,_,_,hx⟩|⟨h1,_,h2⟩
  ·exact .inl ⟨x,g,hx,hb⟩
  ·exact .inr ⟨id,g,h1,h2,hb⟩
 have noBoth:∀id g g' x,id∉ids→G.R id= .live g→Gc.R x= .live g'→g'.blk≠g.blk:=by
  intro id g g' x h1 h2 h3 he;obtain⟨o1,o2,o3⟩:=oldBlk id g h1 h2;rcases hst.owns g'.blk ⟨x,g',h3,rfl⟩with h|h
  ·exact o2 (he▸h)
  ·omega
 have hstp:Stp (fun _=>False) G Os w (G.backR Gc ids new b) Os' w':=by
  refine⟨hle,hst.size,hst.sig,fun b' hb=> ?_,hst.frn,fun b' c hc=> ?_,fun b' hb h1 h2 _=>hst.keep b' hb (fun h=>h1 (pickOwn b' h)) h2 id,hst.ow,hst.oo⟩
  ·rcases owns3 b' hb with h|⟨id,g,_,h2,h3⟩
   ·exact(hst.owns b' h).elim (fun h=> .inl (pickOwn b' h)) .inr
   ·exact .inl ⟨id,g,h2,h3⟩
  ·rcases hst.mem b' c hc with h|h|h|h
   ·exact .inl h
   ·exact .inr (.inl (pickOwn b' h))
   ·exact .inr (.inr (.inl h))
   ·exact .inr (.inr (.inr h))
 have relB:∀v y,Rel Gc v y→(∀id∈idsV v,id∈rs)→Rel (G.backR Gc ids new b) (xz (z6 ids new b) v) y:=fun v y hv hi=>
  Rel.ren (G:=Gc) (G2:=G.backR Gc ids new b) (fun _ _ h=>h) hv fun id hid=>key id (hi id hid)
  -- a row of the callee's, back in the caller
 have rowBack:∀x∈rs,∀r,H'[x]? =some r→(m.Fz.testBit (z6 ids new b x)=true→∀g,Gc.R x= .live g→Fz'.testBit x=true)→(r= .free→m.Fz.testBit (z6 ids new b x)=false)→RowRel (G.backR Gc ids new b) T w' mC.Fz (z6 ids new b x) (qg (z6 ids new b) r):=by
  intro x hx r hr hz hzf;have hrow:=hgd.heap.rows x r hr
  have hsub:∀i∈wx r,i∈rs:=by
   obtain⟨r',hr',hi⟩:=hrs.row x hx;rw[hr]at hr';cases hr';exact hi
  have hren:mC.Fz.testBit (z6 ids new b x)=Fz'.testBit x→RowRel (G.backR Gc ids new b) T w' mC.Fz (z6 ids new b x) (qg (z6 ids new b) r):=fun hF=>
   hrow.ren (G2:=G.backR Gc ids new b) (fun _ _ h=>h) (fun _ _=>rfl) (key x hx) hF fun i hi=>key i (hsub i hi)
  have hlv:∀g,Gc.R x= .live g→mC.Fz.testBit (z6 ids new b x)=Fz'.testBit x:=by
   intro g hgl;refine Bool.eq_iff_iff.2 ((fzx x hx).trans ⟨fun h=>h.elim (fun h=>hz h g hgl) id,.inr⟩)
  cases r with
  |dead=>intro g hgl;rw[key x hx]at hgl;exact hrow g hgl
  |free=>
   refine hren ?_;refine Bool.eq_iff_iff.2 ((fzx x hx).trans ⟨fun h=>h.elim (fun h=>by rw[hzf rfl]at h;cases h) id,.inr⟩)
  |cells b' fl ty l=>obtain⟨g,hgl,_⟩:=hrow;exact hren (hlv g hgl)
  |map es=>obtain⟨g,hgl,_⟩:=hrow;exact hren (hlv g hgl)
  |siter s p=>obtain⟨g,hgl,_⟩:=hrow;exact hren (hlv g hgl)
  |miter v n q=>obtain⟨g,hgl,_⟩:=hrow;exact hren (hlv g hgl)
 have rowJ:∀(j:Nat) id r,ids[j]? =some id→H'[j]? =some r→RowRel (G.backR Gc ids new b) T w' mC.Fz id (qg (z6 ids new b) r):=by
  intro j id r hid hr;have:=rowBack j (hrange j (List.getElem?_eq_some_iff.1 hid).1) r hr;rw[back1 j id hid]at this;refine this (fun hz g hgl=> ?_) (fun hf=> ?_)
  ·have hl2:=(hst.le.R j (by rw[hlive j id hid];exact hnf id (List.mem_of_getElem? hid))).2 g hgl
   rw[hlive j id hid]at hl2;have hm:=(hg.heap.fz_iff hl2).1 hz;refine(hgd.heap.fz_iff hgl).2 fun hn=> ?_;cases hq:G.M g.blk with
   |none=>exact hm hq
   |some c=>rw[hst.le.M _ c hq]at hn;cases hn
  ·subst hf
   exact absurd (hgd.heap.rows j _ hr).1 (hGcnf j id hid)
 have rowN:∀(n:Nat) x r,new[n]? =some x→H'[x]? =some r→RowRel (G.backR Gc ids new b) T w' mC.Fz (b+n) (qg (z6 ids new b) r):=by
  intro n x r hx hr;have:=rowBack x ((hnm x).1 (List.mem_of_getElem? hx)).1 r hr;rw[back2 n x hx]at this;have hz:=(newOld n x hx).2.2;exact this (fun h=>by rw[hz]at h;cases h) (fun _=>hz)
 have hheap:HeapRel (G.backR Gc ids new b) T w' mC.H mC.Fz:=by
  refine⟨fun id r hr=> ?_,fun id hn=> ?_,fun id hz=> ?_,fun id id' g g' h1 h2 he=> ?_⟩
  ·rcases trich id with⟨j,hj⟩|⟨n,x,rfl,hx⟩|⟨h1,h2⟩
   ·obtain⟨rj,hrj⟩:=rowC j (hrange j (List.getElem?_eq_some_iff.1 hj).1)
    rw[H1 j id rj hj hrj]at hr;cases hr;exact rowJ j id rj hj hrj
   ·obtain⟨rx,hrx⟩:=rowC x ((hnm x).1 (List.mem_of_getElem? hx)).1
    rw[H2 n x rx hx hrx]at hr;cases hr;exact rowN n x rx hx hrx
   ·rw[H3 id h1 h2]at hr
    refine(hg.heap.rows id r hr).keep hle (R3 id h1 h2) (fun g hgl=> ?_) (fz3 id h1 h2);obtain⟨o1,o2,o3⟩:=oldBlk id g h1 hgl;exact⟨hst.keep _ o1 o2 o3 (fun h=>h),za4 hst o2 o3 o1⟩
  ·rcases trich id with⟨j,hj⟩|⟨n,x,rfl,hx⟩|⟨h1,h2⟩
   ·obtain⟨rj,hrj⟩:=rowC j (hrange j (List.getElem?_eq_some_iff.1 hj).1)
    rw[H1 j id rj hj hrj]at hn;cases hn
   ·obtain⟨rx,hrx⟩:=rowC x ((hnm x).1 (List.mem_of_getElem? hx)).1
    rw[H2 n x rx hx hrx]at hn;cases hn
   ·rw[H3 id h1 h2]at hn;rw[R3 id h1 h2];exact hg.heap.out id hn
  ·refine Classical.byContradiction fun hge=> ?_
   have hn:mC.H[id]? =none:=List.getElem?_eq_none (by omega);rcases trich id with⟨j,hj⟩|⟨n,x,rfl,hx⟩|⟨h1,h2⟩
   ·obtain⟨rj,hrj⟩:=rowC j (hrange j (List.getElem?_eq_some_iff.1 hj).1)
    rw[H1 j id rj hj hrj]at hn;cases hn
   ·obtain⟨rx,hrx⟩:=rowC x ((hnm x).1 (List.mem_of_getElem? hx)).1
    rw[H2 n x rx hx hrx]at hn;cases hn
   ·rw[H3 id h1 h2]at hn
    rw[fz3 id h1 h2]at hz;have:=hg.heap.fz id hz;rw[List.getElem?_eq_getElem this]at hn;cases hn
  ·rcases live3 id g h1 with⟨x,hx,e1,l1⟩|⟨a1,_,l1⟩
   ·rcases live3 id' g' h2 with⟨x',hx',e2,l2⟩|⟨a2,_,l2⟩
    ·have:=hgd.heap.inj x x' g g' l1 l2 he
     rw[←e1,←e2,this]
    ·exact absurd he (noBoth id' g' g x a2 l2 l1)
   ·rcases live3 id' g' h2 with⟨x',hx',e2,l2⟩|⟨a2,_,l2⟩
    ·exact absurd he.symm (noBoth id g g' x' a1 l1 l2)
    ·exact hg.heap.inj id id' g g' l1 l2 he
 refine⟨hstp,⟨hheap,hgd.mem.of rfl fun g cs hcs=>by obtain⟨_,_,_,h3,_⟩:=hgd.mem.glob g cs hcs;exact h3,hgd.stk,fun b' hb hf=> ?_⟩,relB⟩;rcases owns3 b' hb with h|⟨id,g,h1,h2,rfl⟩
 ·exact hgd.sep b' h hf
 ·obtain⟨o1,o2,o3⟩:=oldBlk id g h1 h2
  rcases hst.frn _ hf with h|h
  ·exact o3 h
  ·omega
end
end Go.Den
