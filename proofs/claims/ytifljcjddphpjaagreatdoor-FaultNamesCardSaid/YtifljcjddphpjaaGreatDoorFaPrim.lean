import Derived.Test.YtifljcjddphpjaaGreatDoorFaTab
import Derived.Test.YtifljcjddphpjaaGreatDoorFaShelfT
import Derived.Test.YtifljcjddphpjaaGreatDoorFaShelfS
import Derived.Test.YtifljcjddphpjaaGreatDoorZP
set_option linter.all false
set_option maxHeartbeats 8000000
set_option maxRecDepth 100000
namespace Go.Den.FaT
open Go Go.Proofs Go.Den
theorem yva(xs:Array Value)(w:World):(callFunc 173 xs).run Tryz.prog w= .ok (.enter 173 xs) w:=by kernel_rfl
theorem yu9(xs:Array Value)(w:World):(callFunc 224 xs).run Tryz.prog w= .ok (.enter 224 xs) w:=by kernel_rfl
theorem yu8(xs:Array Value)(w:World):(callFunc 226 xs).run Tryz.prog w= .ok (.enter 226 xs) w:=by kernel_rfl
theorem yu7(xs:Array Value)(w:World):(callFunc 245 xs).run Tryz.prog w= .ok (.enter 245 xs) w:=by kernel_rfl
theorem yu6(xs:Array Value)(w:World):(callFunc 246 xs).run Tryz.prog w= .ok (.enter 246 xs) w:=by kernel_rfl
theorem yu3(b:Nat)(w:World):(callFunc 284 #[.float .f64 b]).run Tryz.prog w= .ok (.value (.int .u64 b)) w:=by kernel_rfl
theorem yu4(n:Int)(w:World):(callFunc 283 #[.int .u64 n]).run Tryz.prog w= .ok (.value (.float .f64 n.toNat)) w:=by kernel_rfl
theorem yu5(b:Nat)(w:World):(callFunc 259 #[.float .f64 b]).run Tryz.prog w=(Extern.MathFloor.toIntegral "math.archFloor" .down #[.float .f64 b]>>=fun v=>pure (Next.value v):Sem Next).run Tryz.prog w:=by kernel_rfl
theorem xd4(b:Nat):∃q:Question,Extern.MathFloor.toIntegral "math.archFloor" .down #[.float .f64 b]=
  (match FloatKind.f64.decode b with
   | .nan s t=>if FloatKind.f64.format.quiet t=t then pure (.float .f64 b)else do
    let kept←choose q
    pure (.float .f64 (if kept==1 then b else FloatKind.f64.encode (.nan s (FloatKind.f64.format.quiet t))))
   |d=>pure (.float .f64 (FloatKind.f64.encode (d.integral .down)))):=by
 delta Extern.MathFloor.toIntegral
 exact⟨_,rfl⟩
theorem yxa(t n:Nat)(hn:0<n):0<(t|||2^(n- 1)) %2^n:=by
 apply Nat.pos_of_ne_zero;intro h;have h1:=congrArg (fun x=>x.testBit (n- 1)) h;simp only[Nat.testBit_mod_two_pow,Nat.testBit_or,Nat.testBit_two_pow,Nat.zero_testBit]at h1;simp[show n- 1<n by omega]at h1
theorem ywh(s:Bool)(t:Nat):(FloatKind.f64.decode (FloatKind.f64.encode (.nan s (FloatKind.f64.format.quiet t)))).isNaN=true:=by
 have a1:Ieee.double.signWeight=9223372036854775808:=by decide
 have a2:Ieee.double.binade=4503599627370496:=by decide
 have a3:Ieee.double.infRung=9218868437227405312:=by decide
 have h0:0<(Ieee.double.quiet t) %4503599627370496:=yxa t 52 (by omega);have hlt:(Ieee.double.quiet t) %4503599627370496<4503599627370496:=Nat.mod_lt _ (by omega)
 have e:FloatKind.f64.encode (.nan s (FloatKind.f64.format.quiet t))=(if s then 9223372036854775808+(9218868437227405312+(Ieee.double.quiet t) %4503599627370496)else 9218868437227405312+(Ieee.double.quiet t) %4503599627370496):=by
  show Ieee.double.word s (Ieee.double.infRung+(Ieee.double.quiet t) %Ieee.double.binade)=_;unfold Ieee.Format.word;rw[a1,a2,a3]
 rw[e];generalize (Ieee.double.quiet t) %4503599627370496=r at*;refine zls Ieee.double _ ?_ ?_ ?_<;>rw[a1]<;>simp only[a2,a3]<;>cases s<;>simp only[if_true,if_false,Bool.false_eq_true]<;>omega
theorem xd3{b b':Nat}{v:V}(h:zfp [.flt .f64 b]=some v)(hb:Fe .f64 b b')(w:World)(G:Gh):∃r w',(callFunc 259 #[.float .f64 b']).run Tryz.prog w= .ok (.value (.float .f64 r)) w'∧Drw w w'∧Rel G v (.float .f64 r)∧pureV v=true:=by
 rw[yu5];obtain⟨q,hq⟩:=xd4 b';rw[hq];simp only[zfp]at h;cases hx:FloatKind.f64.decode b with
 |nan s t=>
  rw[hx]at h;cases h
  obtain⟨s',t',hx'⟩:∃s' t',FloatKind.f64.decode b'= .nan s' t':=by
   rcases hb with rfl|⟨_,h2⟩
   ·exact⟨_,_,hx⟩
   ·exact zbs h2
  rw[hx'];simp only;by_cases hqt:FloatKind.f64.format.quiet t'=t'
  ·rw[if_pos hqt]
   exact⟨b',w,rfl,.inl rfl,.nan _ _ (by rw[hx'];rfl),rfl⟩
  ·rw[if_neg hqt]
   have key:∀k:Nat,(FloatKind.f64.decode (if(k==1)=true then b' else FloatKind.f64.encode (.nan s' (FloatKind.f64.format.quiet t')))).isNaN=true:=by
    intro k;split
    ·rw[hx'];rfl
    ·exact ywh s' t'
   cases hf:q.forced with
   |true=>exact⟨_,w,by simp[hf],.inl rfl,.nan _ _ (key 0),rfl⟩
   |false=>exact⟨_,w.drew,by simp[hf],.inr rfl,.nan _ _ (key (q.cut (w.tape w.drawn q))),rfl⟩
 |infinity s=>
  rcases hb with rfl|⟨h1,_⟩
  ·rw[hx]at h⊢;cases h;exact⟨_,w,rfl,.inl rfl,.flt _ _,rfl⟩
  ·rw[hx]at h1;cases h1
 |number s m e=>
  rcases hb with rfl|⟨h1,_⟩
  ·rw[hx]at h⊢;cases h;exact⟨_,w,rfl,.inl rfl,.flt _ _,rfl⟩
  ·rw[hx]at h1;cases h1
theorem ywq{f:FuncId}{p:List V→Option V}(h:T.prim f=some p):(f=173∧p=zbu)∨(f=224∧p=zcn)∨(f=226∧p=ixV)∨(f=246∧p=zcm)∨(f=245∧p=zc0)∨(f=284∧p=zpk)∨(f=283∧p=zof)∨(f=259∧p=zfp):=by
 have h:lookup f znd=some p:=h;simp only[znd,lookup_cons]at h
 repeat' split at h
 all_goals first
  |(rename_i e;subst e;cases h;simp;done)
  |skip
 cases h
theorem xds:T.glob 3=some (Lib.pow10Tab.map fun z=>V.int .u64 z):=by kernel_rfl
theorem znl:Tryz.prog.globalNamed "internal/strconv.uint64pow10" =some 3:=by kernel_rfl
theorem prim:zpy Tryz.prog T:=by
 intro f p args v hp hv G w xs hx hpu hM;rcases ywq hp with⟨rfl,rfl⟩|⟨rfl,rfl⟩|⟨rfl,rfl⟩|⟨rfl,rfl⟩|⟨rfl,rfl⟩|⟨rfl,rfl⟩|⟨rfl,rfl⟩|⟨rfl,rfl⟩
 ·exact .inl (xct yva (fun a c sep w=>Tryz.strings_Join_none a c sep w) (fun bk o c xs sep w h1 h2 h3 h4 h5=>Tryz.strings_Join bk o c xs sep w h1 h2 h3 h4 h5) hv hx hM)
 ·exact .inl (xcw yu9 (fun n h0 h1=>Tryz.strconv_Itoa n h0 h1 w (yti znl xds hM)) hv hx hM)
 ·exact .inl (xcu yu8 (fun s c w=>Tryz.strings_IndexByte s c w) hv hx hM)
 ·exact .inl (yqg (fun _ _ h=>xcv h) yu6 (fun s c w=>Tryz.strings_Index_one s c w) hv hx hM)
 ·exact .inl (yqg (fun _ _ h=>xiq h) yu7 (fun s c w=>Tryz.strings_Count_one s c w) hv hx hM)
 ·refine .inr ?_
  unfold zpk at hv;split at hv
  ·rename_i b
   obtain⟨x,hxs,r1⟩:=hx.oneV;have hxs':xs= #[x]:=Array.ext' (by simpa using hxs);subst hxs';obtain⟨b',rfl,fb⟩:=r1.fltInv
   have hn:b=b'∧v= .int .u64 b:=by
    rcases fb with rfl|⟨h1,_⟩
    ·split at hv
     ·cases hv
     ·cases hv;exact⟨rfl,rfl⟩
    ·obtain⟨s,t,h1⟩:=zbs h1
     rw[h1]at hv;cases hv
   obtain⟨rfl,rfl⟩:=hn;exact⟨_,w,yu3 _ w,.inl rfl,.int _ _,rfl⟩
  ·cases hv
 ·refine .inr ?_
  unfold zof at hv;split at hv
  ·simp only[Option.some.injEq]at hv
   subst hv;obtain⟨x,hxs,r1⟩:=hx.oneV;have hxs':xs= #[x]:=Array.ext' (by simpa using hxs);subst hxs';cases r1 with|int=>
   exact⟨_,w,yu4 _ w,.inl rfl,.flt _ _,rfl⟩
  ·cases hv
 ·refine .inr ?_
  have hv0:=hv;unfold zfp at hv;split at hv
  ·obtain⟨x,hxs,r1⟩:=hx.oneV
   have hxs':xs= #[x]:=Array.ext' (by simpa using hxs);subst hxs';obtain⟨b',rfl,fb⟩:=r1.fltInv;obtain⟨r,w',h1,h2,h3,h4⟩:=xd3 hv0 fb w G.bare;exact⟨_,w',h1,h2,h3,h4⟩
  ·cases hv
theorem sound:zdd Tryz.prog T (zy T):=xb3 ytj (xd2 prim)
end Go.Den.FaT
