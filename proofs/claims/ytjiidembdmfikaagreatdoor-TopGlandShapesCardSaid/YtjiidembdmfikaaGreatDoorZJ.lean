import Derived.Test.YtjiidembdmfikaaGreatDoorZI
set_option linter.all false
set_option maxHeartbeats 8000000
set_option maxRecDepth 100000
namespace Go.Den
open Go
section
variable {P:Program} {T:Tab} {slot:Option Nat} {m m':Mem} {x:V} {ih:Ih}
theorem ysu:∀{n:Nat} {work seen:List Nat} {k:List Nat→Prog},Res slot (reachP n work seen k) m x m'→∃ids,reach n work seen m.H=some ids∧Res slot (k ids) m x m':=by
 intro n
 induction n with
 |zero=>intro work seen k h;exact h.fail.elim
 |succ n ih=>
  intro work seen k h;unfold reachP at h;unfold reach;split at h
  ·exact⟨_,rfl,h⟩
  ·rename_i id wk
   try simp only
   split at h
   ·rename_i hs;try rw[hs]
    exact ih h
   ·rename_i hs
    try rw[hs]
    obtain⟨r,hr,h⟩:=h.get;rw[hr]
    try simp only
    split at h
    ·exact ih h
    ·rename_i hno
     obtain⟨ids,h1,h2⟩:=ih h;refine⟨ids,?_,h2⟩;cases r with
     |cells b f t l=>cases f with
      |true=>exact h1
      |false=>exact(hno b t l rfl).elim
     |_=>exact h1
theorem yvh:∀{ids:List Nat} {n mm:Nat} {k:Nat→Prog},Res slot (maskP ids n mm k) m x m'→∃q,(∀j,q.testBit j=true↔mm.testBit j=true∨(mask ids m.Fz n).testBit j=true)∧Res slot (k q) m x m':=by
 intro ids
 induction ids with
 |nil=>intro n mm k h;exact⟨mm,fun j=>by simp[mask],h⟩
 |cons id r ih=>
  intro n mm k h;unfold maskP at h;replace h:=h.isFz;obtain⟨q,h1,h2⟩:=ih h;refine⟨q,fun j=> ?_,h2⟩;rw[h1 j];simp only[mask,Nat.testBit_or,Bool.or_eq_true];cases hz:m.Fz.testBit id<;>simp[Nat.testBit_or,or_assoc]
theorem yr1:∀{ids:List Nat} {acc:zj} {k:zj→Prog},Res slot (rowsP ids acc k) m x m'→Res slot (k (acc.reverse++pick m.H ids)) m x m':=by
 intro ids
 induction ids with
 |nil=>intro acc k h;simpa[rowsP,pick]using h
 |cons id r ih=>
  intro acc k h;unfold rowsP at h;obtain⟨row,hr,h⟩:=h.get;have:=ih h;simp only[pick,hr];simpa using this
structure SetAt (m m1:Mem) (ids:List Nat) (rows:zj):Prop where
 at_:∀(j:Nat) id row,ids[j]? =some id→rows[j]? =some row→m1.H[id]? =some row
 else_:∀id,id∉ids→m1.H[id]? =m.H[id]?
 len:m1.H.length=m.H.length
 fz:m1.Fz=m.Fz
 S:m1.S=m.S
theorem yrk:∀{ids:List Nat} {rows:zj} {m:Mem} {k:Prog},ids.Nodup→Res slot (vc ids rows k) m x m'→ids.length=rows.length∧∃m1,SetAt m m1 ids rows∧Res slot k m1 x m':=by
 intro ids
 induction ids with
 |nil=>
  intro rows m k _ h;cases rows with
  |nil=>exact⟨rfl,m,⟨fun j id row hid=>by simp at hid,fun _ _=>rfl,rfl,rfl,rfl⟩,h⟩
  |cons r rows=>exact h.fail.elim
 |cons id ids ih=>
  intro rows m k hnd h;cases rows with
  |nil=>exact h.fail.elim
  |cons row rows=>
   simp only[vc]at h;obtain⟨hlt,h⟩:=h.set;obtain⟨hnm,hnd⟩:=List.nodup_cons.1 hnd;obtain⟨hl,m1,hs,h⟩:=ih hnd h;refine⟨by simp[hl],m1,⟨fun j id' row' hid hrow=> ?_,fun id' hn=> ?_,by simpa using hs.len,hs.fz,hs.S⟩,h⟩
   ·cases j with
    |zero=>
     simp only[List.getElem?_cons_zero,Option.some.injEq]at hid hrow;subst hid;subst hrow;rw[hs.else_ _ hnm];simp[List.getElem?_set,hlt]
    |succ j=>exact hs.at_ j id' row' (by simpa using hid) (by simpa using hrow)
   ·simp only[List.mem_cons,not_or]at hn
    rw[hs.else_ _ hn.2,List.getElem?_set_ne (fun e=>hn.1 e.symm)]
structure NewsAt (m m1:Mem) (b:Nat) (rows:zj):Prop where
 at_:∀(n:Nat) row,rows[n]? =some row→m1.H[b+n]? =some row∧(m.H[b+n]? =none∨m.H[b+n]? =some .free)
 else_:∀id,(∀n,n<rows.length→id≠b+n)→m1.H[id]? =m.H[id]?
 fz:m1.Fz=m.Fz
 S:m1.S=m.S
theorem zmm{row:Row}{rows:zj}{k:Prog}(h:Res slot (ql (row::rows) k) m x m'):row≠ .free∧Res slot (.new row (ql rows k)) m x m':=by
 unfold ql at h;split at h
 ·exact h.fail.elim
 ·rename_i hn;exact⟨hn,h⟩
theorem yux:∀{rows:zj} {m:Mem} {k:Prog},Res none (ql rows k) m x m'→∃m1,NewsAt m m1 m.H.length rows∧m1.H=m.H++rows∧Res none k m1 x m':=by
 intro rows
 induction rows with
 |nil=>intro m k h;exact⟨m,⟨fun n row hr=>by simp at hr,fun _ _=>rfl,rfl,rfl⟩,by simp,h⟩
 |cons row rows ih=>
  intro m k h;obtain⟨_,h⟩:=zmm h;obtain⟨id,m1,h1,_,hn,h⟩:=h.new;obtain⟨rfl,hH⟩:=h1 rfl;obtain⟨m2,hs,hH2,h⟩:=ih h;rw[hH,List.append_assoc]at hH2;refine⟨m2,⟨fun n row' hr=> ?_,fun id hid=> ?_,hs.fz.trans hn.fz,hs.S.trans hn.S⟩,by simpa using hH2,h⟩
  ·refine⟨?_,.inl (by simp)⟩
   rw[hH2,List.getElem?_append_right (by omega)];simpa using hr
  ·rw[hH2]
   by_cases hlt:id<m.H.length
   ·rw[List.getElem?_append_left hlt]
   ·have hge:m.H.length+(row::rows).length≤id:=by
     refine Classical.byContradiction fun hc=>hid (id- m.H.length) (by omega) (by omega)
    rw[List.getElem?_eq_none (by simp at hge⊢;omega),List.getElem?_eq_none (by omega)]
theorem yuz{rows:zj}{m0 m:Mem}{k:Prog}{b:Nat}(hl:m.H.length=m0.H.length)(hb1:slot=none→b=m0.H.length)(hb2:∀i,slot=some i→b=i)(h:Res slot (ql rows k) m x m'):∃m1,NewsAt m m1 b rows∧Res slot k m1 x m':=by
 cases slot with
 |none=>
  obtain⟨m1,hs,_,h⟩:=yux h;rw[hb1 rfl,←hl];exact⟨m1,hs,h⟩
 |some i=>
  have hbi:=hb2 i rfl;subst hbi;cases rows with
  |nil=>exact⟨m,⟨fun n row hr=>by simp at hr,fun _ _=>rfl,rfl,rfl⟩,h⟩
  |cons row rows=>
   obtain⟨hfree,h⟩:=zmm h;obtain⟨id,m1,_,h2,hn,h⟩:=h.new;have:=h2 b rfl;subst this;cases rows with
   |nil=>
    refine⟨m1,⟨fun n row' hr=> ?_,fun id' hid=> ?_,hn.fz,hn.S⟩,h⟩
    ·cases n with
     |zero=>
      simp at hr;subst hr;exact⟨by simp[hn.row],by simpa using hn.free⟩
     |succ n=>simp at hr
    ·rw[hn.row,if_neg (by simpa using hid 0 (by simp))]
   |cons row2 rows=>
    exfalso;obtain⟨_,h⟩:=zmm h;obtain⟨f,h⟩:=h;simp only[Prog.run]at h;have hr:m1.H[id]? =some row:=by rw[hn.row];simp
    rw[hr]at h;cases row with
    |free=>exact hfree rfl
    |_=>cases h
theorem xae{back:Nat→Nat}{Fz:Nat}:∀{xs:List Nat} {m:Mem} {k:Prog},Res slot (qb back Fz xs k) m x m'→∃m1,m1.H=m.H∧m1.S=m.S∧(∀t,m1.Fz.testBit t=true↔m.Fz.testBit t=true∨∃y∈xs,Fz.testBit y=true∧back y=t)∧Res slot k m1 x m':=by
 intro xs
 induction xs with
 |nil=>intro m k h;exact⟨m,rfl,rfl,fun t=>by simp,h⟩
 |cons y xs ih=>
  intro m k h;unfold qb at h;split at h
  ·rename_i hz
   replace h:=h.frz;obtain⟨m1,h1,h2,h3,hk⟩:=ih h;refine⟨m1,h1,h2,fun t=> ?_,hk⟩;rw[h3 t];simp only[Nat.testBit_or,vh,Bool.or_eq_true,decide_eq_true_eq];constructor
   ·rintro((g|g)|⟨u,hu,g⟩)
    ·exact .inl g
    ·exact .inr ⟨y,List.mem_cons_self ..,hz,g⟩
    ·exact .inr ⟨u,List.mem_cons_of_mem _ hu,g⟩
   ·rintro(g|⟨u,hu,g⟩)
    ·exact .inl (.inl g)
    ·rcases List.mem_cons.1 hu with rfl|hu
     ·exact .inl (.inr g.2)
     ·exact .inr ⟨u,hu,g⟩
  ·rename_i hz
   obtain⟨m1,h1,h2,h3,hk⟩:=ih h;refine⟨m1,h1,h2,fun t=> ?_,hk⟩;rw[h3 t];constructor
   ·rintro(g|⟨u,hu,g⟩)
    ·exact .inl g
    ·exact .inr ⟨u,List.mem_cons_of_mem _ hu,g⟩
   ·rintro(g|⟨u,hu,g⟩)
    ·exact .inl g
    ·rcases List.mem_cons.1 hu with rfl|hu
     ·rw[g.1]at hz;cases hz
     ·exact .inr ⟨u,hu,g⟩
end
end Go.Den
