import Derived.Test.YtjiidembdmfikaaGreatDoorZF
import Derived.Maps.RangeRun
set_option linter.all false
set_option maxHeartbeats 8000000
set_option maxRecDepth 100000
namespace Go.Den
open Go
section
variable {P:Program} {T:Tab} {slot:Option Nat} {m m':Mem} {x:V}
theorem xiw{es:List (V×V)}{v:V}(h:zf4 es=some v):pureV v=true∧∀p∈es,p.2=v:=by
 unfold zf4 at h;split at h
 ·simp only[Option.some.injEq]at h
  subst h;exact⟨rfl,fun p hp=>by cases hp⟩
 ·rename_i a k n r
  split at h
  ·rename_i ha
   simp only[Option.some.injEq]at h;subst h;refine⟨rfl,fun p hp=> ?_⟩;rcases List.mem_cons.1 hp with rfl|hp
   ·rfl
   ·have:=List.all_eq_true.1 ha p hp
    split at this
    ·rename_i k' n' he
     simp only[Bool.and_eq_true,beq_iff_eq]at this;rw[he,this.1,this.2]
    ·cases this
  ·cases h
 ·cases h
theorem yxw:∀{L:List MapEntry},L.Pairwise (fun a b=>a.born<b.born)→∀{e:MapEntry},e∈L→(L.filter fun y=>y.born !=e.born).length+1=L.length:=by
 intro L
 induction L with
 |nil=>intro _ e he;cases he
 |cons a L ih=>
  intro hp e he;obtain⟨h1,h2⟩:=List.pairwise_cons.1 hp;rcases List.mem_cons.1 he with rfl|he'
  ·have:(e::L).filter (fun y=>y.born !=e.born)=L:=by
    rw[List.filter_cons_of_neg (by simp)];rw[List.filter_eq_self];intro y hy;have:=h1 y hy;simp;omega
   rw[this];rfl
  ·have hne:=h1 e he'
   rw[List.filter_cons_of_pos (by simp;omega),List.length_cons,ih h2 he'];rfl
theorem ysy(hT:TabOk P T){t kt e:TypeId}(ht:T.td t= .map kt e){id:Nat}{k:V→Prog}
  (h:Res slot (.get id fun row=>(match row with
   | .map es=>optP (zf4 es) fun v=> .set id .dead (newP (.miter v es.length false) fun id'=>k (.it id'))
   |_=> .fail)) m x m'):
  ∃id' m1,Res slot (k (.it id')) m1 x m'∧m1.S=m.S∧∀(G:Gh) (w:World) (y:Value),Rel G (.map id) y→HeapRel G T w m.H m.Fz→MRel G T w→Does P T m1 (.it id') G w (Instr.range t y):=by
 obtain⟨row,hr,h⟩:=h.get;split at h
 ·rename_i es
  obtain⟨v,hv,h⟩:=h.optP;obtain⟨hlt,h⟩:=h.set;obtain⟨id',m1,hn,h⟩:=h.newP;refine⟨id',m1,h,hn.S,fun G w y hy hH hM=>⟨?_⟩⟩;cases hy with|map _ r hf ha=>
  obtain⟨g,ents,clock,rfl,hg,hMn,hz,hc,hes,hpu,hbo⟩:=zfi (hH.rows id _ hr) (.map id r hf ha);obtain⟨s1,s2,s3⟩:=yy6 hH hM hr hg hc hMn;obtain⟨hp,hall⟩:=xiw hv
  obtain⟨t1,t2,t3,t4⟩:=zhq (w':=w.alloc (.mapIter (some g.blk) clock #[] clock)) (o:= .mapIter (some g.blk) clock #[] clock) (g:=⟨w.heap.size,0,0,0⟩) hn s2 s3 rfl rfl fun hle hMn' hz'=>
   ⟨_,by simp[Gh.setR],hMn',hz',g.blk,ents,clock,#[],heap_alloc_new w _,by simp[Gh.setR,Gh.setM],(fun h=>by cases h),hbo,fun e he=>by
    obtain⟨i,hi,rfl⟩:=List.mem_iff_getElem.1 he;have hi2:i<es.length:=by rw[←hes.1];exact hi
    have hr':=(hes.2 i es[i] _ (List.getElem?_eq_getElem hi2) (List.getElem?_eq_getElem hi)).2;rw[hall _ (List.getElem_mem hi2)]at hr';exact(hr'.mono s1.le).mono hle,hp,by
    rw[List.filter_eq_self.2 (fun e _=>by simp)];exact hes.1⟩
  refine⟨.pointer (some ⟨w.heap.size,0,none⟩),_,_,by simp[Instr.range,run_underlying (hT.mapT ht),getObj,Sem.run,hc],s1.trans t1,t2,t3,.it id' _ (by rw[t4];simp) fun g' hg'=> ?_⟩;rw[t4]at hg';cases hg';rfl
 ·exact h.fail.elim
theorem yuw{id:Nat}{ty:TypeId}{k:V→Prog}(h:Res slot (.get id fun row=>(match row with
   | .miter v n _=>(match n with
    |0=>k (.tup [.bool false])
    |n+1=> .set id (.miter v n true) (k (.tup [.bool true,.undef,v])))
   |_=> .fail)) m x m'):
  ∃v m1,Res slot (k v) m1 x m'∧m1.S=m.S∧∀(G:Gh) (w:World) (y:Value),Rel G (.it id) y→HeapRel G T w m.H m.Fz→MRel G T w→Does P T m1 v G w (Instr.next y false ty):=by
 obtain⟨row,hr,h⟩:=h.get;split at h
 ·rename_i v n q0
  cases n with
  |zero=>
   refine⟨_,m,h,rfl,fun G w y hy hH hM=> ?_⟩;obtain⟨g,hg,hMn,hz,mb,ents,clock,seen,hc,hm,hs,hb,hv,hp,hn⟩:=hH.rows id _ hr;cases hy with|it _ a hf ha=>
   obtain rfl:=ha g hg;obtain⟨o,ho,hob⟩:=hM.mem mb _ hm;obtain rfl:o= .map ents clock:=hob;rcases run_next_at (P:=P) w ty g.blk mb clock clock seen ents clock hc ho hb.2 (Nat.le_refl _)with⟨_,hrun⟩|⟨e,he,_⟩
   ·exact .still hH hM hrun (LRel.toTup (a:= #[.bool false]) (by simpa using LRel.one (.bool false)))
   ·exfalso
    have:e∈ents.toList.filter fun e=> !seen.contains e.born:=by simpa[leftOf]using he
    rw[List.length_eq_zero_iff.1 hn]at this;cases this
  |succ n=>
   obtain⟨_,h⟩:=h.set;refine⟨_,_,h,rfl,fun G w y hy hH hM=>⟨?_⟩⟩;obtain⟨g,hg,hMn,hz,mb,ents,clock,seen,hc,hm,hs,hb,hv,hp,hn⟩:=hH.rows id _ hr;cases hy with|it _ a hf ha=>
   obtain rfl:=ha g hg;obtain⟨o,ho,hob⟩:=hM.mem mb _ hm;obtain rfl:o= .map ents clock:=hob;have hgl:g.blk<w.heap.size:=(Array.getElem?_eq_some_iff.1 hc).1;rcases run_next_at (P:=P) w ty g.blk mb clock clock seen ents clock hc ho hb.2 (Nat.le_refl _)with⟨h0,_⟩|⟨e,he,w1,hw1,hrun⟩
   ·exfalso
    have:(leftOf ents seen).size=(ents.toList.filter fun e=> !seen.contains e.born).length:=by simp[leftOf,←Array.length_toList]
    omega
   ·have he':e∈ents.toList.filter fun e=> !seen.contains e.born:=by simpa[leftOf]using he
    have hcnt:(ents.toList.filter fun y=> !(seen.push e.born).contains y.born).length=n:=by
     have h1:=yxw (hb.1.sublist List.filter_sublist) he';rw[List.filter_filter,hn]at h1
     have h2:(ents.toList.filter fun y=> !(seen.push e.born).contains y.born)=ents.toList.filter fun y=>y.born !=e.born&& !seen.contains y.born:=by
      apply List.filter_congr;intro y _;rw[Array.contains_push];cases h3:(y.born==e.born)<;>simp_all [bne]
     rw[h2];omega
    have hval:=hv e (List.mem_filter.1 he').1
    have hu:Rel G (.tup [.bool true,.undef,v]) (.tuple #[.bool true,e.key,e.val]):=
     LRel.toTup (a:= #[.bool true,e.key,e.val]) (by simpa using ((LRel.one (.bool true)).append (LRel.one (.undef e.key))).append (LRel.one hval))
    rcases hw1 with rfl|rfl
    ·obtain⟨s1,s2,s3⟩:=heap_set (w':=Go.ChangeMaps.setBlock w1 g.blk (.mapIter (some mb) clock (seen.push e.born) clock)) (r:= .miter v n true) hH hM hr hg hMn (fun b hb'=>by simp[Go.ChangeMaps.setBlock,Array.getElem?_setIfInBounds_ne (Ne.symm hb')]) (by simp[Go.ChangeMaps.setBlock])
      ⟨g,hg,hMn,hz,mb,ents,clock,seen.push e.born,by simp[Go.ChangeMaps.setBlock,hgl],hm,fun _=>⟨e,(List.mem_filter.1 he').1,seen,rfl⟩,hb,hv,hp,hcnt⟩
     exact⟨_,_,G,hrun,s1,s2,s3,hu⟩
    ·have hd:w.drew.heap=w.heap:=rfl
     obtain⟨s1,s2,s3⟩:=heap_set (w':=Go.ChangeMaps.setBlock w.drew g.blk (.mapIter (some mb) clock (seen.push e.born) clock)) (r:= .miter v n true) hH hM hr hg hMn (fun b hb'=>by simp[Go.ChangeMaps.setBlock,hd,Array.getElem?_setIfInBounds_ne (Ne.symm hb')]) (by simp[Go.ChangeMaps.setBlock,hd])
      ⟨g,hg,hMn,hz,mb,ents,clock,seen.push e.born,by simp[Go.ChangeMaps.setBlock,hd,hgl],hm,fun _=>⟨e,(List.mem_filter.1 he').1,seen,rfl⟩,hb,hv,hp,hcnt⟩
     exact⟨_,_,G,hrun,s1,s2,s3,hu⟩
 ·exact h.fail.elim
theorem xbj{id:Nat}{k:V→Prog}(h:Res slot (.get id fun row=>(match row with
   | .miter v _ true=>k (.tup [.undef,v])
   |_=> .fail)) m x m'):
  ∃v,Res slot (k v) m x m'∧∀(G:Gh) (w:World) (y:Value),Rel G (.it id) y→HeapRel G T w m.H m.Fz→MRel G T w→∃z,(Instr.entry y).run P w= .ok z w∧Rel G v z:=by
 obtain⟨row,hr,h⟩:=h.get;split at h
 ·rename_i v n
  refine⟨_,h,fun G w y hy hH hM=> ?_⟩;obtain⟨g,hg,hMn,hz,mb,ents,clock,seen,hc,hm,hs,hb,hv,hp,hn⟩:=hH.rows id _ hr;cases hy with|it _ a hf ha=>
  obtain rfl:=ha g hg;obtain⟨o,ho,hob⟩:=hM.mem mb _ hm;obtain rfl:o= .map ents clock:=hob;obtain⟨e,he,s,rfl⟩:=hs rfl
  have hnd:(ents.toList.map (·.born)).Nodup:=by
   show List.Pairwise (· ≠ ·) _;rw[List.pairwise_map];exact hb.1.imp fun h=>Nat.ne_of_lt h
  exact⟨_,run_entry_at (P:=P) w g.blk mb clock s ents clock e hc ho he hnd,LRel.toTup (a:= #[e.key,e.val]) (by simpa using (LRel.one (.undef e.key)).append (LRel.one (hv e he)))⟩
 ·exact h.fail.elim
end
end Go.Den
