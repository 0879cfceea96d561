import Derived.Test.YtjiidembdmfikaaGreatDoorZN
set_option linter.all false
set_option maxHeartbeats 8000000
set_option maxRecDepth 100000
namespace Go.Den
open Go
theorem go_eq{α:Type}{slot:Option Nat}:∀(p:Prog) (H:zj) (Fz:Nat) (S:xb) (fp:FP) (k:V→zj→Nat→xb→FP→Option α),
  p.go slot H Fz S fp k=match p.run slot ⟨H,Fz,S⟩with|some (v,m,f)=>k v m.H m.Fz m.S (fp.or f)|none=>none:=by
 intro p
 induction p with
 |ret v=>intro H Fz S fp k;simp only[Prog.go,Prog.run,FP.or_none]
 |fail=>intro H Fz S fp k;rfl
 |get id p ih=>
  intro H Fz S ⟨rd,wr,fr,sk⟩ k;simp only[Prog.go,Prog.run];cases hrow:H[id]? with
  |none=>rfl
  |some row=>
   simp only[ih];cases (p row).run slot ⟨H,Fz,S⟩with
   |none=>rfl
   |some q=>simp[xo,←FP.or_assoc];simp[FP.or,uz]
 |set id row p ih=>
  intro H Fz S ⟨rd,wr,fr,sk⟩ k;simp only[Prog.go,Prog.run];cases hb:Nat.blt id H.length with
  |false=>rfl
  |true=>
   simp only[ih];cases p.run slot ⟨H.set id row,Fz,S⟩with
   |none=>rfl
   |some q=>simp[xo,←FP.or_assoc];simp[FP.or,yg]
 |isFz id p ih=>
  intro H Fz S ⟨rd,wr,fr,sk⟩ k;simp only[Prog.go,Prog.run,ih];cases (p (Fz.testBit id)).run slot ⟨H,Fz,S⟩with
  |none=>rfl
  |some q=>simp[xo,←FP.or_assoc];simp[FP.or,yg]
 |frz id p ih=>
  intro H Fz S ⟨rd,wr,fr,sk⟩ k;simp only[Prog.go,Prog.run,ih];cases p.run slot ⟨H,Fz|||bit id,S⟩with
  |none=>rfl
  |some q=>simp[xo,←FP.or_assoc];simp[FP.or,uk]
 |base p ih=>
  intro H Fz S fp k;cases slot with
  |none=>simp only[Prog.go,Prog.run,ih]
  |some i=>simp only[Prog.go,Prog.run,ih]
 |new row p ih=>
  intro H Fz S ⟨rd,wr,fr,sk⟩ k;cases slot with
  |none=>simp only[Prog.go,Prog.run,ih]
  |some i=>
   simp only[Prog.go,Prog.run];split
   ·rename_i hf
    simp only[ih,hf];cases p.run (some i) ⟨H.set i row,Fz,S⟩with
    |none=>rfl
    |some q=>simp[xo,←FP.or_assoc];simp[FP.or,yg]
   ·rename_i hno
    split
    ·rename_i h1
     split at h1
     ·rename_i h2;exact(hno h2).elim
     ·cases h1
    ·rfl
 |stk p ih=>
  intro H Fz S ⟨rd,wr,fr,sk⟩ k;simp only[Prog.go,Prog.run,ih];cases (p S).run slot ⟨H,Fz,S⟩with
  |none=>rfl
  |some q=>simp[xo,←FP.or_assoc];simp[FP.or,skF]
 |setStk s p ih=>
  intro H Fz S ⟨rd,wr,fr,sk⟩ k;simp only[Prog.go,Prog.run,ih];cases p.run slot ⟨H,Fz,s⟩with
  |none=>rfl
  |some q=>simp[xo,←FP.or_assoc];simp[FP.or,skF]
section
variable {L:Ih} {F:Nat→Ih} {T:Tab} {α:Type}
theorem OA.const(o:Option α):OA L F fun _=>o:=fun r h=>⟨0,fun n _=>h⟩
theorem OA.bind{β:Type}{o:Option β}{k:Ih→β→Option α}(h:∀v,OA L F fun ih=>k ih v):OA L F fun ih=>o.bind (k ih):=by
 cases o with
 |none=>exact .const none
 |some v=>exact h v
theorem OA.need{b:Bool}{k:Ih→Option α}(h:OA L F k):OA L F fun ih=>need b (k ih):=by
 cases b with
 |false=>exact .const none
 |true=>exact h
theorem OA.br{b:Bool}{x y:Ih→Option α}(h:OA L F x)(h':OA L F y):OA L F fun ih=>br b (x ih) (y ih):=by
 cases b with
 |false=>exact h'
 |true=>exact h
theorem OA.go{slot:Option Nat}{p:Ih→Prog}{H:zj}{Fz:Nat}{S:xb}{fp:FP}{k:Ih→V→zj→Nat→xb→FP→Option α}(hp:PA L F p)(hk:∀v H Fz S fp,OA L F fun ih=>k ih v H Fz S fp):OA L F fun ih=>(p ih).go slot H Fz S fp (k ih):=by
 intro r h;simp only[go_eq]at h⊢;cases hr:(p L).run slot ⟨H,Fz,S⟩with
 |none=>rw[hr]at h;cases h
 |some q=>
  rw[hr]at h;obtain⟨N1,h1⟩:=hp _ _ _ hr;obtain⟨N2,h2⟩:=hk _ _ _ _ _ r h;exact⟨max N1 N2,fun n hn=>by rw[h1 n (by omega)];exact h2 n (by omega)⟩
variable (hI:IhApx L F)
include hI
theorem OA.opK{slot:Option Nat}{st:St}{o:Oper}{k:Ih→V→St→FP→Option α}(hk:∀v st fp,OA L F fun ih=>k ih v st fp):OA L F fun ih=>Den.opK ih T slot st o (k ih):=
 OA.go (PA.opP hI) fun v H Fz S fp=>hk _ _ _
theorem OA.opsK{ops:Array Oper}{slot:Nat→Option Nat}:∀{os:List Oper} {j:Nat} {st:St} {fps:List FP} {k:Ih→St→List FP→Option α},(∀st fps,OA L F fun ih=>k ih st fps)→OA L F fun ih=>Den.opsK ih T ops slot j os st fps (k ih):=by
 intro os
 induction os with
 |nil=>intro j st fps k h;exact h _ _
 |cons o os ihos=>
  intro j st fps k h;unfold Den.opsK;cases ve st o.dst with
  |false=>exact .const none
  |true=>
   simp only;cases hg:o.guard with
   |none=>exact OA.opK hI fun v st fp=>ihos h
   |some g=>
    obtain⟨g,want⟩:=g;simp only;cases j7 ops st.eval g with
    |bool b=>
     simp only;cases want with
     |true=>exact OA.br (OA.opK hI fun v st fp=>ihos h) (ihos h)
     |false=>exact OA.br (ihos h) (OA.opK hI fun v st fp=>ihos h)
    |tup vs=>exact ihos h
    |_=>exact .const none
theorem OA.regionK{ops:Array Oper}{ps:Option (List (Nat×Nat))}{st:St}{k:Ih→St→Option α}(h:∀st,OA L F fun ih=>k ih st):OA L F fun ih=>Den.regionK ih T ops ps st (k ih):=by
 unfold Den.regionK;cases ps with
 |none=>exact OA.opsK hI fun st _=>h st
 |some ps=>exact OA.opsK hI fun st fps=>OA.need (h st)
theorem OA.runK:∀(n:Nat) (rnd:Bool) (items:List Item) (st:St),OA L F fun ih=>Den.runK ih T rnd n items st:=by
 intro n
 induction n with
 |zero=>intro rnd items st;exact .const none
 |succ n ihn=>
  intro rnd items st;have lp:∀items,OA L F fun ih=>(jn T st (match items with| .code (.loop b)::_=>b|_=> .skip)).bind fun st=>ih.loop rnd items st:=fun items=> .bind fun st r h=>hI.loop _ _ _ r h;unfold Den.runK;cases items with
  |nil=>exact .const _
  |cons i k=>
   cases i with
   |code c=>
    simp only;cases c with
    |skip=>exact ihn _ _ _
    |label l=>exact ihn _ _ _
    |ret=>exact .const _
    |seq a b=>exact ihn _ _ _
    |cond c a b=>
     simp only;unfold asBool;split
     ·exact OA.br (ihn _ _ _) (ihn _ _ _)
     ·exact .const none
    |block id b=>exact ihn _ _ _
    |loop b=>exact lp (.code (.loop b)::k)
    |scope b=>exact ihn _ _ _
    |exit id=>
     simp only;split
     ·exact ihn _ _ _
     ·exact .const _
    |region id ops draw=>exact OA.regionK hI fun st=>ihn _ _ _
    |rangeFunc f ps as body=>
     refine OA.need ?_;split
     ·refine OA.need (OA.go (PA.callV hI) fun v H Fz S fp=> ?_)
      split
      ·exact ihn _ _ _
      ·exact .const none
     ·refine OA.go (.const _) fun fv H Fz S fp=>OA.need (OA.go (PA.callV hI) fun v H Fz S fp=> ?_)
      split
      ·exact ihn _ _ _
      ·exact .const none
    |_=>exact .const none
   |inBlock id=>exact ihn _ _ _
   |inScope id=>exact ihn _ _ _
   |beginRound=>exact ihn _ _ _
   |inLoop b=>exact lp (.code (.loop b)::k)
   |_=>exact .const none
end
theorem OA.then{L:Ih}{F:Nat→Ih}{α β:Type}{o:Ih→Option β}(g:Option β→Option α)(hg:g none=none)(h:OA L F o):OA L F fun ih=>g (o ih):=by
 intro r hr;simp only at hr;cases ho:o L with
 |none=>rw[ho,hg]at hr;cases hr
 |some v=>
  obtain⟨N,hN⟩:=h v ho;exact⟨N,fun n hn=>by simp only[hN n hn];rw[←ho];exact hr⟩
theorem zc0{L:Ih}{F:Nat→Ih}(T:Tab)(hI:IhApx L F):IhApx (xp T L) (fun n=>xp T (F n)):=by
 refine⟨fun f args H Fz S=> ?_,fun rnd items st=> ?_,fun d args S=> ?_⟩
 ·show OA L F fun ih=>(xp T ih).call f args H Fz S
  simp only[xp];split
  ·split
   ·refine OA.need ?_
    exact OA.then (fun o:Option Out=>match o with|some (.ret v,H',Fz',S')=>some (v,H',Fz',S')|_=>none) rfl (OA.runK hI _ _ _ _)
   ·exact .const none
  ·exact .const none
 ·show OA L F fun ih=>(xp T ih).loop rnd items st
  simp only[xp];split
  ·exact OA.runK hI _ _ _ _
  ·exact .const none
 ·show OA L F fun ih=>(xp T ih).yld d args S
  simp only[xp];split
  ·rename_i own _
   split
   ·exact .const none
   ·refine OA.need ?_
    exact OA.then (fun o:Option Out=>match o with|some (.round jump,H',Fz',S')=>(zaq T own H' Fz' jump).bind fun own'=>some (jump.isNone,S'++(own'::S.drop (d+1)))|_=>none) rfl (OA.runK hI _ _ _ _)
  ·exact .const none
theorem xba(T:Tab):∀n,IhApx (ev T n) (fun _=>ev T (n+1)):=by
 intro n
 induction n with
 |zero=>exact⟨fun f args H Fz S r h=>by simp[ev]at h,fun rnd items st r h=>by simp[ev]at h,fun d args S r h=>by simp[ev]at h⟩
 |succ n ih=>exact zc0 T ih
structure Ih.le (a b:Ih):Prop where
 call:∀f args H Fz S r,a.call f args H Fz S=some r→b.call f args H Fz S=some r
 loop:∀rnd items st r,a.loop rnd items st=some r→b.loop rnd items st=some r
 yld:∀d args S r,a.yld d args S=some r→b.yld d args S=some r
theorem IhApx.le{a b:Ih}(h:IhApx a fun _=>b):a.le b:=
 ⟨fun f args H Fz S r hr=>let⟨N,hN⟩:=h.call f args H Fz S r hr;hN N (Nat.le_refl _),fun rnd items st r hr=>let⟨N,hN⟩:=h.loop rnd items st r hr;hN N (Nat.le_refl _),fun d args S r hr=>let⟨N,hN⟩:=h.yld d args S r hr;hN N (Nat.le_refl _)⟩
theorem Ih.le.apx{a b:Ih}(h:a.le b):IhApx a fun _=>b:=
 ⟨fun f args H Fz S r hr=>⟨0,fun _ _=>h.call f args H Fz S r hr⟩,fun rnd items st r hr=>⟨0,fun _ _=>h.loop rnd items st r hr⟩,fun d args S r hr=>⟨0,fun _ _=>h.yld d args S r hr⟩⟩
theorem Ih.le.trans{a b c:Ih}(h:a.le b)(h':b.le c):a.le c:=
 ⟨fun f args H Fz S r hr=>h'.call _ _ _ _ _ _ (h.call f args H Fz S r hr),fun rnd items st r hr=>h'.loop _ _ _ _ (h.loop rnd items st r hr),fun d args S r hr=>h'.yld _ _ _ _ (h.yld d args S r hr)⟩
theorem Ih.le.refl(a:Ih):a.le a:=⟨fun _ _ _ _ _ _ h=>h,fun _ _ _ _ h=>h,fun _ _ _ _ h=>h⟩
theorem zdw(T:Tab){n k:Nat}(h:n≤k):(ev T n).le (ev T k):=by
 induction k with
 |zero=>
  have:n=0:=by omega
  subst this;exact .refl _
 |succ k ih=>
  by_cases hk:n=k+1
  ·subst hk;exact .refl _
  ·exact(ih (by omega)).trans (xba T k).le
open Classical in
noncomputable def ze3{α:Type}(s:Nat→Option α):Option α:=if h:∃r n,s n=some r then some (Classical.choose h)else none
theorem zmy{α:Type}{s:Nat→Option α}(hm:∀n k r,n≤k→s n=some r→s k=some r)(r:α):ze3 s=some r↔∃n,s n=some r:=by
 unfold ze3;constructor
 ·intro h
  split at h
  ·rename_i hx
   obtain⟨n,hn⟩:=Classical.choose_spec hx;simp only[Option.some.injEq]at h;rw[←h];exact⟨n,hn⟩
  ·cases h
 ·rintro⟨n,hn⟩
  have hx:∃r n,s n=some r:=⟨r,n,hn⟩;rw[dif_pos hx];obtain⟨k,hk⟩:=Classical.choose_spec hx;have h1:=hm n (max n k) r (by omega) hn;have h2:=hm k (max n k) _ (by omega) hk;rw[h1]at h2;exact h2.symm
noncomputable def zu(T:Tab):Ih:=
 {call:=fun f args H Fz S=>ze3 fun n=>(ev T n).call f args H Fz S
  loop:=fun rnd items st=>ze3 fun n=>(ev T n).loop rnd items st
  yld:=fun d args S=>ze3 fun n=>(ev T n).yld d args S}
theorem zhj{T:Tab}{f args H Fz S r}:(zu T).call f args H Fz S=some r↔∃n,(ev T n).call f args H Fz S=some r:=zmy (fun n k r h h'=>(zdw T h).call _ _ _ _ _ _ h') r
theorem zmw{T:Tab}{rnd items st r}:(zu T).loop rnd items st=some r↔∃n,(ev T n).loop rnd items st=some r:=zmy (fun n k r h h'=>(zdw T h).loop _ _ _ _ h') r
theorem zmv{T:Tab}{d args S r}:(zu T).yld d args S=some r↔∃n,(ev T n).yld d args S=some r:=zmy (fun n k r h h'=>(zdw T h).yld _ _ _ _ h') r
theorem yxf(T:Tab):IhApx (zu T) (ev T):=
 ⟨fun f args H Fz S r h=>let⟨N,hN⟩:=zhj.1 h;⟨N,fun n hn=>(zdw T hn).call _ _ _ _ _ _ hN⟩,fun rnd items st r h=>let⟨N,hN⟩:=zmw.1 h;⟨N,fun n hn=>(zdw T hn).loop _ _ _ _ hN⟩,fun d args S r h=>let⟨N,hN⟩:=zmv.1 h;⟨N,fun n hn=>(zdw T hn).yld _ _ _ _ hN⟩⟩
theorem zh4(T:Tab)(n:Nat):(ev T n).le (zu T):=⟨fun f args H Fz S r h=>zhj.2 ⟨n,h⟩,fun rnd items st r h=>zmw.2 ⟨n,h⟩,fun d args S r h=>zmv.2 ⟨n,h⟩⟩
theorem zmh{α:Type}{a b:Option α}(h:∀r,a=some r↔b=some r):a=b:=by
 cases a with
 |none=>cases b with
  |none=>rfl
  |some r=>exact(h r).2 rfl
 |some r=>exact((h r).1 rfl).symm
theorem zmx(T:Tab):(zu T).le (xp T (zu T)):=by
 have key:∀n,(ev T n).le (xp T (zu T)):=by
  intro n;cases n with
  |zero=>exact⟨fun f args H Fz S r h=>by simp[ev]at h,fun rnd items st r h=>by simp[ev]at h,fun d args S r h=>by simp[ev]at h⟩
  |succ n=>exact(zc0 T (zh4 T n).apx).le
 exact⟨fun f args H Fz S r h=>let⟨n,hn⟩:=zhj.1 h;(key n).call _ _ _ _ _ _ hn,fun rnd items st r h=>let⟨n,hn⟩:=zmw.1 h;(key n).loop _ _ _ _ hn,fun d args S r h=>let⟨n,hn⟩:=zmv.1 h;(key n).yld _ _ _ _ hn⟩
theorem zcz(T:Tab):(xp T (zu T)).le (zu T):=by
 have h:=zc0 T (yxf T);exact⟨fun f args H Fz S r hr=>let⟨n,hn⟩:=h.call _ _ _ _ _ r hr;(zh4 T (n+1)).call _ _ _ _ _ _ (hn n (Nat.le_refl _)),fun rnd items st r hr=>let⟨n,hn⟩:=h.loop _ _ _ r hr;(zh4 T (n+1)).loop _ _ _ _ (hn n (Nat.le_refl _)),fun d args S r hr=>let⟨n,hn⟩:=h.yld _ _ _ r hr;(zh4 T (n+1)).yld _ _ _ _ (hn n (Nat.le_refl _))⟩
theorem yxe(T:Tab)(f:FuncId)(args:List V)(H:zj)(Fz:Nat)(S:xb):(zu T).call f args H Fz S=(xp T (zu T)).call f args H Fz S:=
 zmh fun r=>⟨(zmx T).call _ _ _ _ _ r,(zcz T).call _ _ _ _ _ r⟩
theorem yxd(T:Tab)(rnd:Bool)(items:List Item)(st:St):(zu T).loop rnd items st=(xp T (zu T)).loop rnd items st:=
 zmh fun r=>⟨(zmx T).loop _ _ _ r,(zcz T).loop _ _ _ r⟩
theorem yxb(T:Tab)(d:Nat)(args:List V)(S:xb):(zu T).yld d args S=(xp T (zu T)).yld d args S:=
 zmh fun r=>⟨(zmx T).yld _ _ _ r,(zcz T).yld _ _ _ r⟩
theorem yxc{P:Program}{T:Tab}(hT:TabOk P T)(hF:FnsOk P T):zcs P T (zu T):=by
 intro f args H Fz S v H' Fz' S' h;obtain⟨n,hn⟩:=zhj.1 h;exact(xa9 hT hF n).call f args H Fz S v H' Fz' S' hn
end Go.Den
