import Derived.Test.YteeikdgoeehhkaaGreatDoorFaX0
import Derived.Test.YteeikdgoeehhkaaGreatDoorFaX3
import Derived.Test.YteeikdgoeehhkaaGreatDoorFaDoor
set_option linter.all false
set_option maxHeartbeats 8000000
set_option maxRecDepth 100000
namespace Go.Proofs.YteeikdgoeehhkaaGreatDoor
open Go Go.Proofs Go.Den Go.Den.FaT Go.ChangeShapes Go.WideShapes Go.ChangeAt Go.RowKit
theorem cl5{n:Nat}{us:List V}(h:Cl Tryz.prog n 5 us):∃a:Int,us= [.int .u8 a]∧0≤a∧a≤255:=by
 cases n with
 |zero=>cases h
 |succ n=>
  unfold Cl at h;rw[Tryz.underlying5]at h;obtain⟨i,rfl,hw⟩:=h;have h3:0≤i∧i≤255:=by simpa[Lit.wf,IntKind.min,IntKind.max,IntKind.signed,IntKind.bits]using hw
  exact⟨i,rfl,h3⟩
theorem ykg{n:Nat}{us:List V}(h:Cl Tryz.prog n 25 us):∃a:Int,us= [.int .i8 a]∧ -128≤a∧a≤127:=by
 cases n with
 |zero=>cases h
 |succ n=>
  unfold Cl at h;rw[Tryz.underlying25]at h;obtain⟨i,rfl,hw⟩:=h;have h3: -128≤i∧i≤127:=by simpa[Lit.wf,IntKind.min,IntKind.max,IntKind.signed,IntKind.bits]using hw
  exact⟨i,rfl,h3⟩
theorem zij{n:Nat}{us:List V}(h:Cl Tryz.prog n 66 us):∃a:Int,us= [.int .u16 a]∧0≤a∧a≤65535:=by
 cases n with
 |zero=>cases h
 |succ n=>
  unfold Cl at h;rw[Tryz.underlying66]at h;obtain⟨i,rfl,hw⟩:=h;have h3:0≤i∧i≤65535:=by simpa[Lit.wf,IntKind.min,IntKind.max,IntKind.signed,IntKind.bits]using hw
  exact⟨i,rfl,h3⟩
theorem ytj(v:V):mk Tryz.prog 66 [v]=v:=by unfold mk;rw[Tryz.underlying66];rfl
theorem yti(us:List V):mk Tryz.prog 72 us= .agg us:=by unfold mk;rw[Tryz.underlying72]
theorem words{n:Nat}:∀{l:List V},(∀u∈l,∃us,Cl Tryz.prog n 66 us∧u=mk Tryz.prog 66 us)→∃ps:List Int,l=ps.map xx∧∀p∈ps,0≤p∧p≤65535
 | [],_=>⟨[],rfl,fun p h=>by cases h⟩
 |u::l,h=>by
  obtain⟨ps,rfl,hps⟩:=words (l:=l) fun v hv=>h v (List.mem_cons_of_mem _ hv);obtain⟨us,h1,rfl⟩:=h u (List.mem_cons_self);obtain⟨a,rfl,ha⟩:=zij h1;refine⟨a::ps,by rw[ytj];rfl,fun r hr=> ?_⟩;rcases List.mem_cons.1 hr with rfl|hr
  ·exact ha
  ·exact hps r hr
theorem xcn{n:Nat}{us:List V}(h:Cl Tryz.prog n 65 us):∃b,∃ps:List Int,us= [.sl b 1 (ps.map xx)]∧∀p∈ps,0≤p∧p≤65535:=by
 cases n with
 |zero=>cases h
 |succ n=>
  unfold Cl at h;rw[Tryz.underlying65]at h;obtain⟨b,l,rfl,_,_,hl⟩:=h;obtain⟨ps,rfl,hps⟩:=words hl;have:Tryz.prog.cellsOf 66=1:=by kernel_rfl
  exact⟨b,ps,by rw[this],hps⟩
theorem zn5{n:Nat}{us:List V}(h:Cl Tryz.prog n 26 us):∃a b:Int,us= [.int .i8 a,.int .i8 b]∧(-128≤a∧a≤127)∧ -128≤b∧b≤127:=by
 cases n with
 |zero=>cases h
 |succ n=>
  unfold Cl at h;rw[Tryz.underlying26]at h;obtain⟨ps,rfl,hl,hp⟩:=h
  match ps,hl with
  | [p,q],_=>
   obtain⟨x,rfl,hx⟩:=ykg (hp p (by simp));obtain⟨y,rfl,hy⟩:=ykg (hp q (by simp));exact⟨x,y,rfl,hx,hy⟩
theorem xcl{n:Nat}{us:List V}(h:Cl Tryz.prog n 69 us):∃a b c:Int,us= [.int .u8 a,.int .u8 b,.int .u8 c]∧(0≤a∧a≤255)∧(0≤b∧b≤255)∧0≤c∧c≤255:=by
 cases n with
 |zero=>cases h
 |succ n=>
  unfold Cl at h;rw[Tryz.underlying69]at h;obtain⟨ps,rfl,hl,hp⟩:=h
  match ps,hl with
  | [p,q,r],_=>
   obtain⟨x,rfl,hx⟩:=cl5 (hp p (by simp));obtain⟨y,rfl,hy⟩:=cl5 (hp q (by simp));obtain⟨z,rfl,hz⟩:=cl5 (hp r (by simp));exact⟨x,y,z,rfl,hx,hy,hz⟩
theorem zn4{n:Nat}{us:List V}(h:Cl Tryz.prog n 67 us):∃a b c:Int,us= [xx a,xx b,xx c]∧(0≤a∧a≤65535)∧(0≤b∧b≤65535)∧0≤c∧c≤65535:=by
 cases n with
 |zero=>cases h
 |succ n=>
  unfold Cl at h;rw[Tryz.underlying67]at h;obtain⟨ps,rfl,hl,hp⟩:=h
  match ps,hl with
  | [p,q,r],_=>
   obtain⟨x,rfl,hx⟩:=zij (hp p (by simp));obtain⟨y,rfl,hy⟩:=zij (hp q (by simp));obtain⟨z,rfl,hz⟩:=zij (hp r (by simp));exact⟨x,y,z,rfl,hx,hy,hz⟩
theorem xcm{n:Nat}{us:List V}(h:Cl Tryz.prog n 68 us):∃a0 a1 a2 b0 b1 b2 c0 c1 c2:Int,us= [xx a0,xx a1,xx a2,xx b0,xx b1,xx b2,xx c0,xx c1,xx c2]∧(0≤a0∧a0≤65535)∧(0≤a1∧a1≤65535)∧(0≤a2∧a2≤65535)∧(0≤b0∧b0≤65535)∧(0≤b1∧b1≤65535)∧(0≤b2∧b2≤65535)∧(0≤c0∧c0≤65535)∧(0≤c1∧c1≤65535)∧0≤c2∧c2≤65535:=by
 cases n with
 |zero=>cases h
 |succ n=>
  unfold Cl at h;rw[Tryz.underlying68]at h;obtain⟨ps,rfl,hl,hp⟩:=h
  match ps,hl with
  | [p,q,r],_=>
   obtain⟨a0,a1,a2,rfl,x0,x1,x2⟩:=zn4 (hp p (by simp));obtain⟨b0,b1,b2,rfl,y0,y1,y2⟩:=zn4 (hp q (by simp));obtain⟨c0,c1,c2,rfl,z0,z1,z2⟩:=zn4 (hp r (by simp));exact⟨a0,a1,a2,b0,b1,b2,c0,c1,c2,rfl,x0,x1,x2,y0,y1,y2,z0,z1,z2⟩
theorem xck{n:Nat}{us:List V}(h:Cl Tryz.prog n 70 us):∃a0 a1 b0 b1 c0 c1:Int,us= [i8 a0,i8 a1,i8 b0,i8 b1,i8 c0,i8 c1]∧(-128≤a0∧a0≤127)∧(-128≤a1∧a1≤127)∧(-128≤b0∧b0≤127)∧(-128≤b1∧b1≤127)∧(-128≤c0∧c0≤127)∧ -128≤c1∧c1≤127:=by
 cases n with
 |zero=>cases h
 |succ n=>
  unfold Cl at h;rw[Tryz.underlying70]at h;obtain⟨ps,rfl,hl,hp⟩:=h
  match ps,hl with
  | [p,q,r],_=>
   obtain⟨a0,a1,rfl,x0,x1⟩:=zn5 (hp p (by simp));obtain⟨b0,b1,rfl,y0,y1⟩:=zn5 (hp q (by simp));obtain⟨c0,c1,rfl,z0,z1⟩:=zn5 (hp r (by simp));exact⟨a0,a1,b0,b1,c0,c1,rfl,x0,x1,y0,y1,z0,z1⟩
theorem xcj{n:Nat}{us:List V}(h:Cl Tryz.prog n 72 us):(zu T).call 4 [mk Tryz.prog 72 us] [] 0 []=some (.bool true,[],0,[]):=by
 rw[yti];cases n with
 |zero=>cases h
 |succ n=>
  unfold Cl at h;rw[Tryz.underlying72]at h;obtain⟨ps,rfl,hl,hp⟩:=h
  match ps,hl with
  | [p,q,r,s,t,u,v],_=>
   obtain⟨be,es,rfl,hes⟩:=xcn (hp 0 _ p rfl rfl);obtain⟨l00,l01,l02,l10,l11,l12,l20,l21,l22,rfl,g00,g01,g02,g10,g11,g12,g20,g21,g22⟩:=xcm (hp 1 _ q rfl rfl);obtain⟨d0,d1,d2,rfl,k0,k1,k2⟩:=xcl (hp 2 _ r rfl rfl);obtain⟨n,rfl,hn⟩:=cl5 (hp 3 _ s rfl rfl);obtain⟨o,rfl,ho⟩:=cl5 (hp 4 _ t rfl rfl);obtain⟨p00,p01,p10,p11,p20,p21,rfl,m0,m1,m2,m3,m4,m5⟩:=xck (hp 5 _ u rfl rfl);obtain⟨pr,rfl,hpr⟩:=cl5 (hp 6 _ v rfl rfl);show(zu T).call 4 [zy be es ⟨l00,l01,l02,l10,l11,l12,l20,l21,l22,d0,d1,d2,n,o,p00,p01,p10,p11,p20,p21,pr⟩] [] 0 []=_;by_cases hlen:es.length<1∨3<es.length
   ·exact ywd be es ⟨l00,l01,l02,l10,l11,l12,l20,l21,l22,d0,d1,d2,n,o,p00,p01,p10,p11,p20,p21,pr⟩ hlen
   ·refine ywe be es ⟨l00,l01,l02,l10,l11,l12,l20,l21,l22,d0,d1,d2,n,o,p00,p01,p10,p11,p20,p21,pr⟩ ⟨by show 1≤es.length;omega,by show es.length≤3;omega,fun j=> ?_,fun k j=> ?_,fun k=> ?_,hn,by show(o %4).toNat≤3;omega⟩ hn ho hpr ⟨m0,m1,m2,m3,m4,m5⟩
    ·show 0≤es.getD j 0∧es.getD j 0≤65535
     rw[List.getD_eq_getElem?_getD];cases he:es[j]? with
     |none=>exact⟨Int.le_refl _,(by decide:(0:Int)≤65535)⟩
     |some e=>exact hes e (List.mem_of_getElem? he)
    ·unfold mkR
     dsimp only;split<;>assumption
    ·unfold mkR
     dsimp only;split<;>assumption
theorem ywg{al:List V}(h:al.length=1∧∀(i:Nat) t a,[72][i]? =some t→al[i]? =some a→∃us,Cl Tryz.prog 12 t us∧a=mk Tryz.prog t us):(zu T).call 4 al [] 0 []=some (.bool true,[],0,[]):=by
 obtain⟨hl,h⟩:=h
 match al,hl with
 | [a],_=>
  obtain⟨us,h1,rfl⟩:=h 0 72 a rfl rfl;exact xcj h1
theorem yvu(os:Os)(started:os.Started)(H:Type)(enc:TypeId×Value→H):
  ReturnsInHanded {} Tryz.checked os 4 .any (fun w args=>(Rows.topClampRepairedSpec.pre enc Tryz.prog Tryz.f4 [] false w args∧laidMetH Tryz.prog zb7 w)∧sizedMet enc Tryz.prog Tryz.f4 (OpenSpec.ofChange Rows.topClampRepairedSpec) false w args)
   (Rows.topClampRepairedSpec.post enc Tryz.prog Tryz.f4 false true false false):=by
 refine returnsInHanded_of_change_and (C:=Tryz.checked) (X:=fun w _=>laidMetH Tryz.prog zb7 w) (fun _ _ _ hh h=>h.of_heap hh) own started (by kernel_rfl) Tryz.func4
  (ChangeSpec.witness_shaped (enc:=enc) (C:=Tryz.checked) (os:=os) (X:=fun w _=>laidMetH Tryz.prog zb7 w) false (World.doorLaid Tryz.prog 4000 os) #[.agg #[.slice none 0 0,.int .u16 0,.int .u16 0,.int .u16 0,.int .u16 0,.int .u16 0,.int .u16 0,.int .u16 0,.int .u16 0,.int .u16 0,.int .u8 0,.int .u8 0,.int .u8 0,.int .u8 0,.int .u8 0,.int .i8 0,.int .i8 0,.int .i8 0,.int .i8 0,.int .i8 0,.int .i8 0,.int .u8 0]] 8 rfl (World.shaped_of_RefB (by kernel_rfl) (by kernel_rfl)) (by kernel_rfl) (by kernel_rfl) (by kernel_rfl) (xbn os _)) ?_
 intro W base args ds gs before hval0 hW _ _ hL _;have hval:∀(j:Nat) t v,Tryz.f4.params[j]? =some t→args[j]? =some v→Value.okWide Tryz.prog W .any base t v:=hval0;have hW':=hW;obtain⟨p,q,hA0,hV,rfl,hfz,hnd⟩:=hW;have hA:DataW.TrodAll enc Tryz.prog W 0 (fun _=>true) true Tryz.f4.params.toList args.toList ds p:=hA0;have hV:DataW.TrodVars enc Tryz.prog W (fun _=>true) [] gs q:=hV;obtain⟨rfl,rfl⟩:=trodVars_none hV;rw[Tryz.params4]at hA hval;obtain⟨al,r1,r2,r3⟩:=ylg (n:=12) (by kernel_rfl) hA (fun j t v h1 h2=>hval j t v (by simpa using h1) (by simpa using h2));refine(xdb sound (by kernel_rfl) (ywg ⟨r2,r3⟩) r1 (ys1 hL)).mono ?_;rintro e W' ⟨rfl,hs,hk,ho⟩;refine⟨_,rfl,ywc (tb:=4) rfl rfl Tryz.underlying4 ?_ laidOut (by kernel_rfl) hW' hs hk ho⟩;obtain⟨v0,d0,_,rfl,_⟩:=trodAll_one hA;rfl
end Go.Proofs.YteeikdgoeehhkaaGreatDoor
