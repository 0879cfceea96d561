import Derived.Test.YteeikdgoeehhkaaGreatDoorFaTab
import Derived.Test.YteeikdgoeehhkaaGreatDoorZR
import Derived.Test.YteeikdgoeehhkaaGreatDoorFaTi
set_option linter.all false
set_option maxHeartbeats 8000000
set_option maxRecDepth 100000
noncomputable section
namespace Go.Den.FaT
open Go Go.Proofs Go.Den Tryz
abbrev RR(c:Code)(os:List SO):Prop:=ylm T c os
abbrev RD(c:Code)(f:Nat)(os:List SO)(ps:List (Nat×Nat)):Prop:=ylp T c f os ps
abbrev RI(r c:Code):Prop:=yln T r c
@[go_sem]theorem fr16:qv T 16 false none false∧yp T 16 73 41 []:=by refine⟨⟨?_,?_,?_⟩,yw T (F:=f16) ?_ ?_⟩<;>kernel_rfl
@[go_sem]theorem fr41:qv T 41 false none false∧zm T 41 41:=by refine⟨⟨?_,?_,?_⟩,zl T (F:=f41) ?_ ?_⟩<;>kernel_rfl
@[go_sem]theorem fr42:qv T 42 false none false∧zm T 42 73:=by refine⟨⟨?_,?_,?_⟩,zl T (F:=f42) ?_ ?_⟩<;>kernel_rfl
def ycg:=nv 2 f16
def ycf:=nv 12 f16
def yce:=nv 26 f16
def ycd:=nv 108 f16
def ycc:=nv 14 f16
theorem xat:qy T 16 12 (.seq (ycg) (.seq (.seq (ycf) (.seq (yce) (.cond (.tmp 8) (.seq (ycd) (.ret)) (.skip)))) (.seq (ycc) (.ret)))):=zp T (F:=f16) (by kernel_rfl) (by kernel_rfl) (by kernel_rfl)
@[go_sem↓]theorem run16:RR ycg [oo 1 (.box 76 (.tmp 0)),oo 2 on,oo 3 (oi 0)]∧RR ycf [oo 5 (oL 76 1),oo 6 (o1 41 5 76),oo 4 (oG 6)]∧RR yce [oo 7 (oM 4),oo 8 (oC .neq 41 7 0)]∧RR ycd [oo 9 (oM 4),oo 2 on,oo 3 (oG 9)]∧RR ycc [oo 10 (oL 76 1),oo 11 (o1 42 10 76),oo 2 (oG 11),oo 3 (oi 0)]∧zf T 16 [.tmp 2,.tmp 3] false:=by refine⟨zz T ?_,zz T ?_,zz T ?_,zz T ?_,zz T ?_,zh T (F:=f16) ?_ ?_ ?_⟩<;>kernel_rfl
@[go_sem]theorem fr24:qv T 24 false none false∧zm T 24 41:=by refine⟨⟨?_,?_,?_⟩,zl T (F:=f24) ?_ ?_⟩<;>kernel_rfl
@[go_sem]theorem fr33:qv T 33 false none false∧zm T 33 41:=by refine⟨⟨?_,?_,?_⟩,zl T (F:=f33) ?_ ?_⟩<;>kernel_rfl
@[go_sem]theorem fr79:qv T 79 false none false∧zm T 79 41:=by refine⟨⟨?_,?_,?_⟩,zl T (F:=f79) ?_ ?_⟩<;>kernel_rfl
@[go_sem]theorem fr81:qv T 81 false none false∧zm T 81 41:=by refine⟨⟨?_,?_,?_⟩,zl T (F:=f81) ?_ ?_⟩<;>kernel_rfl
@[go_sem]theorem fr82:qv T 82 false none false∧zm T 82 41:=by refine⟨⟨?_,?_,?_⟩,zl T (F:=f82) ?_ ?_⟩<;>kernel_rfl
@[go_sem]theorem fr83:qv T 83 false none false∧zm T 83 114:=by refine⟨⟨?_,?_,?_⟩,zl T (F:=f83) ?_ ?_⟩<;>kernel_rfl
@[go_sem]theorem fr84:qv T 84 false none false∧zm T 84 41:=by refine⟨⟨?_,?_,?_⟩,zl T (F:=f84) ?_ ?_⟩<;>kernel_rfl
@[go_sem]theorem fr85:qv T 85 false none false∧zm T 85 114:=by refine⟨⟨?_,?_,?_⟩,zl T (F:=f85) ?_ ?_⟩<;>kernel_rfl
def zyk:=nv 2 f41
def zyj:=nv 12 f41
def zyi:=nv 26 f41
def zyh:=nv 108 f41
def zyg:=nv 14 f41
def zyf:=nv 30 f41
def zye:=nv 62 f41
theorem xag:qy T 41 33 (.seq (zyk) (.seq (.seq (zyj) (.seq (zyi) (.cond (.tmp 11) (.seq (zyh) (.ret)) (.skip)))) (.seq (zyg) (.seq (zyf) (.seq (zye) (.ret)))))):=zp T (F:=f41) (by kernel_rfl) (by kernel_rfl) (by kernel_rfl)
@[go_sem↓]theorem run41:RR zyk [oo 1 (.box 76 (.tmp 0)),oo 2 (oi 0)]∧RR zyj [oo 6 (oF 76 1 0),oo 7 (oL 73 6),oo 8 (oN 7 73),oo 9 (.call ⟨.value (.func 33),#[.tmp 8,.const (.int .i64 8)],#[3,3]⟩),oo 3 (oG 9)]∧RR zyi [oo 10 (oM 3),oo 11 (oC .neq 41 10 0)]∧RR zyh [oo 12 (oM 3),oo 2 (oG 12)]∧RR zyg [oo 13 (.makeFunc (.func 79) #[] #[.tmp 1]),oo 4 (oG 13)]∧RR zyf [oo 14 (.makeFunc (.func 82) #[] #[.tmp 1]),oo 5 (oG 14)]∧RD zye 41 [oo 15 (oF 76 1 0),oo 16 (oL 73 15),oo 17 (oM 4),oo 18 (o2 83 16 17 73 168),oo 19 (o1 24 18 114),oo 20 (oF 76 1 1),oo 21 (oL 3 20),oo 22 (o1 81 21 3),oo 23 (oF 76 1 2),oo 24 (oL 74 23),oo 25 (o1 84 24 74),oo 26 (oF 76 1 2),oo 27 (oL 74 26),oo 28 (oM 5),oo 29 (o2 85 27 28 74 169),oo 30 (o1 24 29 114),oo 31 (.buildSlice 114 4 #[(0,.tmp 19),(1,.tmp 22),(2,.tmp 25),(3,.tmp 30)]),oo 32 (o1 24 31 114),oo 2 (oG 32)] [(0,2),(1,2),(0,5),(1,5),(2,5),(3,5),(4,5),(0,6),(1,6),(2,6),(3,6),(4,6),(0,8),(1,8),(2,8),(3,8),(4,8),(5,8),(6,8),(7,8),(0,9),(1,9),(2,9),(3,9),(4,9),(5,9),(6,9),(7,9),(0,11),(1,11),(2,11),(3,11),(4,11),(5,11),(6,11),(7,11),(8,11),(9,11),(10,11),(0,12),(1,12),(2,12),(3,12),(4,12),(5,12),(6,12),(7,12),(8,12),(9,12),(10,12),(0,13),(1,13),(2,13),(3,13),(4,13),(5,13),(6,13),(7,13),(8,13),(9,13),(10,13),(11,13),(12,13)]∧zf T 41 [.tmp 2] false:=by refine⟨zz T ?_,zz T ?_,zz T ?_,zz T ?_,zz T ?_,zz T ?_,xo T (id:=6) ?_ ?_,zh T (F:=f41) ?_ ?_ ?_⟩<;>kernel_rfl
@[go_sem]theorem fr19:qv T 19 false none false∧zm T 19 4:=by refine⟨⟨?_,?_,?_⟩,zl T (F:=f19) ?_ ?_⟩<;>kernel_rfl
def ybs:=nv 2 f19
def ybr:=nv 12 f19
def ybq:=nv 52 f19
def ybp:=nv 28 f19
def zji:=nv 116 f19
def ybo:=nv 464 f19
def ybm:=nv 1864 f19
def ybl:=nv 7460 f19
def ybn:=nv 467 f19
def zlz:=nv 30 f19
theorem yj0:qy T 19 26 (.seq (ybs) (.seq (.seq (ybr) (.cond (.tmp 10) (.seq (ybq) (.ret)) (.skip))) (.seq (.seq (ybp) (.block 0 (.loop zji))) (.seq (zlz) (.ret))))):=zp T (F:=f19) (by kernel_rfl) (by kernel_rfl) (by kernel_rfl)
@[go_sem↓]theorem run19:RR ybs [oo 4 (.assign (.const (.bool false)))]∧RR ybr [oo 6 (oM 0),oo 7 (oN 6 39),oo 8 (oM 1),oo 9 (oN 8 39),oo 10 (oB .neq 3 7 9)]∧RR ybq [oo 4 (.assign (.const (.bool false)))]∧RR ybp [oo 5 (oi 0)]∧RR ybo [oo 11 (oM 5),oo 12 (oM 0),oo 13 (oN 12 39),oo 14 (oB .lss 3 11 13)]∧RD ybm 19 [oo 17 (oM 0),oo 18 (oM 5),oo 19 (oI 39 17 18),oo 20 (oL 3 19),oo 21 (oM 1),oo 22 (oM 5),oo 23 (oI 39 21 22),oo 24 (oL 3 23),oo 25 (oB .neq 3 20 24)] [(0,1),(0,4),(1,4),(2,4),(3,4),(0,5),(1,5),(2,5),(3,5),(4,5),(0,6),(1,6),(2,6),(3,6),(0,7),(1,7),(2,7),(3,7)]∧RR ybl [oo 4 (.assign (.const (.bool false)))]∧RR ybn [oo 15 (oM 5),oo 16 (oC .add 3 15 1),oo 5 (oG 16)]∧RI zji (.seq (.seq (ybo) (.cond (.tmp 14) (.skip) (.exit 0))) (.seq (.block 1 (.seq (ybm) (.cond (.tmp 25) (.seq (ybl) (.ret)) (.skip)))) (ybn)))∧xv T 19 zji [0,1,5]∧RR zlz [oo 4 (.assign (.const (.bool true)))]∧zf T 19 [.tmp 4] false:=by refine⟨zz T ?_,zz T ?_,zz T ?_,zz T ?_,zz T ?_,xo T (id:=6) ?_ ?_,zz T ?_,zz T ?_,zi T ?_,xk T ?_,zz T ?_,zh T (F:=f19) ?_ ?_ ?_⟩<;>kernel_rfl
@[go_sem]theorem fr86:qv T 86 false none false∧zm T 86 39:=by refine⟨⟨?_,?_,?_⟩,zl T (F:=f86) ?_ ?_⟩<;>kernel_rfl
@[go_sem]theorem fr112:qv T 112 false none false∧zm T 112 3:=by refine⟨⟨?_,?_,?_⟩,zl T (F:=f112) ?_ ?_⟩<;>kernel_rfl
@[go_sem]theorem fr113:qv T 113 false none false∧zm T 113 39:=by refine⟨⟨?_,?_,?_⟩,zl T (F:=f113) ?_ ?_⟩<;>kernel_rfl
@[go_sem]theorem fr114:qv T 114 false none false∧zm T 114 3:=by refine⟨⟨?_,?_,?_⟩,zl T (F:=f114) ?_ ?_⟩<;>kernel_rfl
def zsm:=nv 2 f86
def zsl:=nv 6 f86
def zsk:=nv 28 f86
def zi2:=nv 116 f86
def zsj:=nv 232 f86
def zsi:=nv 3736 f86
def zsh:=nv 3737 f86
def zsg:=nv 935 f86
def zlf:=nv 30 f86
theorem yzm:qy T 86 23 (.seq (zsm) (.seq (zsl) (.seq (.seq (zsk) (.block 0 (.loop zi2))) (.seq (zlf) (.ret))))):=zp T (F:=f86) (by kernel_rfl) (by kernel_rfl) (by kernel_rfl)
@[go_sem↓]theorem run86:RR zsm [oo 1 (.box 76 (.tmp 0)),oo 2 on]∧RR zsl [oo 3 on]∧RR zsk [oo 5 (oF 76 1 0),oo 6 (oL 73 5),oo 7 (.indexAddr 73 (.tmp 6) (.const (.int .i64 0))),oo 8 (oL 39 7),oo 9 (oN 8 39),oo 10 (.move (.const (.int .i64 0)))]∧RR zsj [oo 11 (oB .lss 3 10 9)]∧RR zsi [oo 12 (oM 10),oo 4 (.alloc 3),ow 3 4 12]∧RR zsh [oo 13 (oM 3),oo 14 (oF 76 1 0),oo 15 (oL 73 14),oo 16 (.makeFunc (.func 114) #[] #[.tmp 4]),oo 17 (o2 113 15 16 73 152),oo 18 (o1 112 17 39),oo 19 (oS 39 18),oo 20 (oA 13 19 39),oo 3 (oG 20)]∧RR zsg [oo 21 (oC .add 3 10 1),oo 10 (oM 21)]∧RI zi2 (.seq (zsj) (.seq (.cond (.tmp 11) (.skip) (.exit 0)) (.seq (.block 1 (.seq (zsi) (zsh))) (zsg))))∧xv T 86 zi2 [1,3,9,10]∧RR zlf [oo 22 (oM 3),oo 2 (oG 22)]∧zf T 86 [.tmp 2] false:=by refine⟨zz T ?_,zz T ?_,zz T ?_,zz T ?_,zz T ?_,zz T ?_,zz T ?_,zi T ?_,xk T ?_,zz T ?_,zh T (F:=f86) ?_ ?_ ?_⟩<;>kernel_rfl
@[go_sem]theorem fr87:qv T 87 false none false∧zm T 87 73:=by refine⟨⟨?_,?_,?_⟩,zl T (F:=f87) ?_ ?_⟩<;>kernel_rfl
@[go_sem]theorem fr88:qv T 88 false none false∧zm T 88 39:=by refine⟨⟨?_,?_,?_⟩,zl T (F:=f88) ?_ ?_⟩<;>kernel_rfl
def zyd:=nv 2 f42
def zyc:=nv 6 f42
def zyb:=nv 14 f42
theorem xaf:qy T 42 10 (.seq (zyd) (.seq (zyc) (.seq (zyb) (.ret)))):=zp T (F:=f42) (by kernel_rfl) (by kernel_rfl) (by kernel_rfl)
@[go_sem↓]theorem run42:RR zyd [oo 1 (.box 76 (.tmp 0)),oo 2 on]∧RR zyc [oo 4 (oL 76 1),oo 5 (o1 86 4 76),oo 3 (.alloc 39),ow 39 3 5]∧RR zyb [oo 6 (oF 76 1 0),oo 7 (oL 73 6),oo 8 (.makeFunc (.func 88) #[] #[.tmp 3]),oo 9 (o2 87 7 8 73 162),oo 2 (oG 9)]∧zf T 42 [.tmp 2] false:=by refine⟨zz T ?_,zz T ?_,zz T ?_,zh T (F:=f42) ?_ ?_ ?_⟩<;>kernel_rfl
@[go_sem]theorem fr29:qv T 29 false none false∧zm T 29 41:=by refine⟨⟨?_,?_,?_⟩,zl T (F:=f29) ?_ ?_⟩<;>kernel_rfl
def zz3:=nv 2 f33
def zz2:=nv 6 f33
theorem xaj:qy T 33 14 (.seq (zz3) (.seq (zz2) (.ret))):=zp T (F:=f33) (by kernel_rfl) (by kernel_rfl) (by kernel_rfl)
@[go_sem↓]theorem run33:RR zz3 [oo 4 (oi 0)]∧RR zz2 [oo 5 (oM 0),oo 6 (oC .eql 3 5 0),oo 7 (.call ⟨.value (.func 29),#[.tmp 6,.const (.int .i64 12)],#[4,41]⟩),oo 8 (oM 0),oo 9 (oM 1),oo 10 (oB .gtr 3 8 9),oo 11 (.call ⟨.value (.func 29),#[.tmp 10,.const (.int .i64 5)],#[4,41]⟩),oo 12 (.buildSlice 114 2 #[(0,.tmp 7),(1,.tmp 11)]),oo 13 (o1 24 12 114),oo 4 (oG 13)]∧zf T 33 [.tmp 4] false:=by refine⟨zz T ?_,zz T ?_,zh T (F:=f33) ?_ ?_ ?_⟩<;>kernel_rfl
@[go_sem]theorem fr80:qv T 80 false none false∧zm T 80 114:=by refine⟨⟨?_,?_,?_⟩,zl T (F:=f80) ?_ ?_⟩<;>kernel_rfl
def ztp:=nv 2 f79
def zto:=nv 6 f79
theorem yzt:qy T 79 21 (.seq (ztp) (.seq (zto) (.ret))):=zp T (F:=f79) (by kernel_rfl) (by kernel_rfl) (by kernel_rfl)
@[go_sem↓]theorem run79:RR ztp [oo 3 (oi 0)]∧RD zto 79 [oo 4 (oM 0),oo 5 (oN 4 39),oo 6 (.call ⟨.value (.func 33),#[.tmp 5,.const (.int .i64 8)],#[3,3]⟩),oo 7 (oM 0),oo 8 (oN 7 39),oo 9 (oF 76 1 0),oo 10 (oL 73 9),oo 11 (.indexAddr 73 (.tmp 10) (.const (.int .i64 0))),oo 12 (oL 39 11),oo 13 (oN 12 39),oo 14 (oB .neq 3 8 13),oo 15 (.call ⟨.value (.func 29),#[.tmp 14,.const (.int .i64 2)],#[4,41]⟩),oo 16 (oM 0),oo 17 (.call ⟨.value (.func 80),#[.tmp 16,.func 81],#[39,151]⟩),oo 18 (o1 24 17 114),oo 19 (.buildSlice 114 3 #[(0,.tmp 6),(1,.tmp 15),(2,.tmp 18)]),oo 20 (o1 24 19 114),oo 3 (oG 20)] [(0,3),(1,3),(2,3),(0,4),(1,4),(2,4),(0,5),(1,5),(2,5),(3,5),(4,5),(0,6),(1,6),(2,6),(3,6),(4,6),(0,7),(1,7),(2,7),(3,7),(4,7),(0,8),(1,8),(2,8),(3,8),(4,8),(0,9),(1,9),(2,9),(3,9),(4,9),(0,10),(1,10),(2,10),(0,12),(1,12),(2,12),(3,12),(4,12),(5,12),(6,12),(7,12),(8,12),(9,12),(10,12),(11,12)]∧zf T 79 [.tmp 3] false:=by refine⟨zz T ?_,xo T (id:=1) ?_ ?_,zh T (F:=f79) ?_ ?_ ?_⟩<;>kernel_rfl
def yae:=nv 2 f24
def yad:=nv 12 f24
def zjg:=nv 52 f24
def yac:=nv 104 f24
def yab:=nv 1688 f24
def yaa:=nv 3378 f24
def zz9:=nv 13516 f24
def zz8:=nv 423 f24
def zlw:=nv 14 f24
theorem xal:qy T 24 15 (.seq (yae) (.seq (.seq (yad) (.block 0 (.loop zjg))) (.seq (zlw) (.ret)))):=zp T (F:=f24) (by kernel_rfl) (by kernel_rfl) (by kernel_rfl)
@[go_sem↓]theorem run24:RR yae [oo 2 (oi 0)]∧RR yad [oo 5 (oM 0),oo 6 (oN 5 114),oo 7 (.move (.const (.int .i64 0)))]∧RR yac [oo 8 (oB .lss 3 7 6)]∧RR yab [oo 9 (oI 114 5 7),oo 10 (oL 41 9),oo 4 (oG 10)]∧RR yaa [oo 11 (oM 4),oo 12 (oC .neq 41 11 0)]∧RR zz9 [oo 13 (oM 4),oo 2 (oG 13)]∧RR zz8 [oo 14 (oC .add 3 7 1),oo 7 (oM 14)]∧RI zjg (.seq (yac) (.seq (.cond (.tmp 8) (.skip) (.exit 0)) (.seq (.block 1 (.seq (yab) (.seq (yaa) (.cond (.tmp 12) (.seq (zz9) (.ret)) (.skip))))) (zz8))))∧xv T 24 zjg [5,6,7]∧RR zlw [oo 2 (oi 0)]∧zf T 24 [.tmp 2] false:=by refine⟨zz T ?_,zz T ?_,zz T ?_,zz T ?_,zz T ?_,zz T ?_,zz T ?_,zi T ?_,xk T ?_,zz T ?_,zh T (F:=f24) ?_ ?_ ?_⟩<;>kernel_rfl
def zz7:=nv 2 f29
def zz6:=nv 12 f29
def zz5:=nv 52 f29
def zz4:=nv 14 f29
theorem xak:qy T 29 7 (.seq (zz7) (.seq (.seq (zz6) (.cond (.tmp 5) (.seq (zz5) (.ret)) (.skip))) (.seq (zz4) (.ret)))):=zp T (F:=f29) (by kernel_rfl) (by kernel_rfl) (by kernel_rfl)
@[go_sem↓]theorem run29:RR zz7 [oo 4 (oi 0)]∧RR zz6 [oo 5 (oM 0)]∧RR zz5 [oo 6 (oM 1),oo 4 (oG 6)]∧RR zz4 [oo 4 (oi 0)]∧zf T 29 [.tmp 4] false:=by refine⟨zz T ?_,zz T ?_,zz T ?_,zz T ?_,zh T (F:=f29) ?_ ?_ ?_⟩<;>kernel_rfl
def ztn:=nv 2 f80
def ztm:=nv 6 f80
def ztl:=nv 28 f80
def zi6:=nv 116 f80
def ztk:=nv 232 f80
def ztj:=nv 3736 f80
def zti:=nv 3737 f80
def zth:=nv 935 f80
def zlj:=nv 30 f80
theorem yzs:qy T 80 22 (.seq (ztn) (.seq (ztm) (.seq (.seq (ztl) (.block 0 (.loop zi6))) (.seq (zlj) (.ret))))):=zp T (F:=f80) (by kernel_rfl) (by kernel_rfl) (by kernel_rfl)
@[go_sem↓]theorem run80:RR ztn [oo 4 on]∧RR ztm [oo 5 on]∧RR ztl [oo 8 (oM 0),oo 9 (oN 8 39),oo 10 (.move (.const (.int .i64 0)))]∧RR ztk [oo 11 (oB .lss 3 10 9)]∧RR ztj [oo 12 (oI 39 8 10),oo 13 (oL 3 12),oo 7 (oG 13)]∧RR zti [oo 14 (oM 5),oo 15 (oM 1),oo 16 (oM 7),oo 17 (.call ⟨.value (.tmp 15),#[.tmp 16],#[3]⟩),oo 18 (oS 114 17),oo 19 (oA 14 18 114),oo 5 (oG 19)]∧RR zth [oo 20 (oC .add 3 10 1),oo 10 (oM 20)]∧RI zi6 (.seq (ztk) (.seq (.cond (.tmp 11) (.skip) (.exit 0)) (.seq (.block 1 (.seq (ztj) (zti))) (zth))))∧xv T 80 zi6 [1,5,8,9,10]∧RR zlj [oo 21 (oM 5),oo 4 (oG 21)]∧zf T 80 [.tmp 4] false:=by refine⟨zz T ?_,zz T ?_,zz T ?_,zz T ?_,zz T ?_,zz T ?_,zz T ?_,zi T ?_,xk T ?_,zz T ?_,zh T (F:=f80) ?_ ?_ ?_⟩<;>kernel_rfl
@[go_sem]theorem fr47:qv T 47 false none false∧zm T 47 41:=by refine⟨⟨?_,?_,?_⟩,zl T (F:=f47) ?_ ?_⟩<;>kernel_rfl
def ztg:=nv 2 f81
def ztf:=nv 6 f81
theorem yzr:qy T 81 5 (.seq (ztg) (.seq (ztf) (.ret))):=zp T (F:=f81) (by kernel_rfl) (by kernel_rfl) (by kernel_rfl)
@[go_sem↓]theorem run81:RR ztg [oo 2 (oi 0)]∧RR ztf [oo 3 (oM 0),oo 4 (.call ⟨.value (.func 47),#[.tmp 3,.const (.int .i64 0),.const (.int .i64 1000000)],#[3,3,3]⟩),oo 2 (oG 4)]∧zf T 81 [.tmp 2] false:=by refine⟨zz T ?_,zz T ?_,zh T (F:=f81) ?_ ?_ ?_⟩<;>kernel_rfl
def zte:=nv 2 f82
def ztd:=nv 6 f82
theorem yzq:qy T 82 23 (.seq (zte) (.seq (ztd) (.ret))):=zp T (F:=f82) (by kernel_rfl) (by kernel_rfl) (by kernel_rfl)
@[go_sem↓]theorem run82:RR zte [oo 2 (.box 103 (.tmp 0)),oo 3 (oi 0)]∧RD ztd 82 [oo 4 (oF 103 2 1),oo 5 (oL 3 4),oo 6 (oF 76 1 0),oo 7 (oL 73 6),oo 8 (oN 7 73),oo 9 (oB .geq 3 5 8),oo 10 (.call ⟨.value (.func 29),#[.tmp 9,.const (.int .i64 10)],#[4,41]⟩),oo 11 (oF 103 2 2),oo 12 (oL 101 11),oo 13 (oN 12 101),oo 14 (oF 76 1 0),oo 15 (oL 73 14),oo 16 (.indexAddr 73 (.tmp 15) (.const (.int .i64 0))),oo 17 (oL 39 16),oo 18 (oN 17 39),oo 19 (oB .neq 3 13 18),oo 20 (.call ⟨.value (.func 29),#[.tmp 19,.const (.int .i64 2)],#[4,41]⟩),oo 21 (.buildSlice 114 2 #[(0,.tmp 10),(1,.tmp 20)]),oo 22 (o1 24 21 114),oo 3 (oG 22)] [(0,2),(1,2),(0,3),(1,3),(0,4),(1,4),(0,7),(1,7),(2,7),(3,7),(4,7),(5,7),(6,7),(0,8),(1,8),(2,8),(3,8),(4,8),(5,8),(6,8),(0,9),(1,9),(2,9),(3,9),(4,9),(5,9),(6,9),(0,10),(1,10),(2,10),(3,10),(4,10),(5,10),(6,10),(7,10),(8,10),(9,10),(0,11),(1,11),(2,11),(3,11),(4,11),(5,11),(6,11),(7,11),(8,11),(9,11),(0,12),(1,12),(2,12),(3,12),(4,12),(5,12),(6,12),(7,12),(8,12),(9,12),(0,13),(1,13),(2,13),(3,13),(4,13),(5,13),(6,13),(7,13),(8,13),(9,13),(0,14),(1,14),(2,14),(3,14),(4,14),(5,14),(6,14),(7,14),(8,14),(9,14),(0,15),(1,15),(2,15),(3,15),(4,15),(5,15),(6,15)]∧zf T 82 [.tmp 3] false:=by refine⟨zz T ?_,xo T (id:=1) ?_ ?_,zh T (F:=f82) ?_ ?_ ?_⟩<;>kernel_rfl
def ztc:=nv 2 f83
def ztb:=nv 6 f83
def zta:=nv 28 f83
def zi5:=nv 116 f83
def zs9:=nv 232 f83
def zs8:=nv 3736 f83
def zs7:=nv 3737 f83
def zs6:=nv 935 f83
def zli:=nv 30 f83
theorem yzp:qy T 83 22 (.seq (ztc) (.seq (ztb) (.seq (.seq (zta) (.block 0 (.loop zi5))) (.seq (zli) (.ret))))):=zp T (F:=f83) (by kernel_rfl) (by kernel_rfl) (by kernel_rfl)
@[go_sem↓]theorem run83:RR ztc [oo 4 on]∧RR ztb [oo 5 on]∧RR zta [oo 8 (oM 0),oo 9 (oN 8 73),oo 10 (.move (.const (.int .i64 0)))]∧RR zs9 [oo 11 (oB .lss 3 10 9)]∧RR zs8 [oo 12 (oI 73 8 10),oo 13 (oL 39 12),oo 7 (oG 13)]∧RR zs7 [oo 14 (oM 5),oo 15 (oM 1),oo 16 (oM 7),oo 17 (.call ⟨.value (.tmp 15),#[.tmp 16],#[39]⟩),oo 18 (oS 114 17),oo 19 (oA 14 18 114),oo 5 (oG 19)]∧RR zs6 [oo 20 (oC .add 3 10 1),oo 10 (oM 20)]∧RI zi5 (.seq (zs9) (.seq (.cond (.tmp 11) (.skip) (.exit 0)) (.seq (.block 1 (.seq (zs8) (zs7))) (zs6))))∧xv T 83 zi5 [1,5,8,9,10]∧RR zli [oo 21 (oM 5),oo 4 (oG 21)]∧zf T 83 [.tmp 4] false:=by refine⟨zz T ?_,zz T ?_,zz T ?_,zz T ?_,zz T ?_,zz T ?_,zz T ?_,zi T ?_,xk T ?_,zz T ?_,zh T (F:=f83) ?_ ?_ ?_⟩<;>kernel_rfl
@[go_sem]theorem fr103:qv T 103 false none false∧zm T 103 4:=by refine⟨⟨?_,?_,?_⟩,zl T (F:=f103) ?_ ?_⟩<;>kernel_rfl
@[go_sem]theorem fr111:qv T 111 false none false∧zm T 111 41:=by refine⟨⟨?_,?_,?_⟩,zl T (F:=f111) ?_ ?_⟩<;>kernel_rfl
def zs5:=nv 2 f84
def zs4:=nv 12 f84
def zs1:=nv 52 f84
def zs0:=nv 14 f84
def zsz:=nv 60 f84
def zi4:=nv 244 f84
def zsy:=nv 488 f84
def zsx:=nv 7832 f84
def zsw:=nv 31332 f84
def zsv:=nv 62666 f84
def zsu:=nv 250668 f84
def zs3:=nv 15667 f84
def zs2:=nv 1959 f84
def zlh:=nv 62 f84
theorem yzo:qy T 84 38 (.seq (zs5) (.seq (.seq (zs4) (.cond (.tmp 9) (.seq (zs1) (.ret)) (.skip))) (.seq (zs0) (.seq (.seq (zsz) (.block 0 (.loop zi4))) (.seq (zlh) (.ret)))))):=zp T (F:=f84) (by kernel_rfl) (by kernel_rfl) (by kernel_rfl)
@[go_sem↓]theorem run84:RR zs5 [oo 2 (oi 0)]∧RR zs4 [oo 7 (oM 0),oo 8 (oN 7 74),oo 9 (oC .gtr 3 8 8)]∧RR zs1 [oo 2 (oi 5)]∧RR zs0 [oo 10 (.makeMap 188 none),oo 3 (oG 10)]∧RR zsz [oo 11 (oM 0),oo 12 (oN 11 74),oo 13 (.move (.const (.int .i64 0)))]∧RR zsy [oo 14 (oB .lss 3 13 12)]∧RR zsx [oo 15 (oI 74 11 13),oo 16 (oL 103 15),oo 5 (.alloc 103),ow 103 5 16]∧RD zsw 84 [oo 17 (oF 103 5 0),oo 18 (oL 9 17),oo 19 (o1 103 18 9),oo 20 (.unOp .not 4 (.tmp 19)),oo 21 (.call ⟨.value (.func 29),#[.tmp 20,.const (.int .i64 8)],#[4,41]⟩),oo 22 (oM 3),oo 23 (oF 103 5 0),oo 24 (oL 9 23),oo 25 (.lookup 188 (.tmp 22) (.tmp 24) false),oo 26 (.call ⟨.value (.func 29),#[.tmp 25,.const (.int .i64 9)],#[4,41]⟩),oo 27 (oL 103 5),oo 28 (o1 111 27 103),oo 29 (.buildSlice 114 3 #[(0,.tmp 21),(1,.tmp 26),(2,.tmp 28)]),oo 30 (o1 24 29 114),oo 6 (oG 30)] [(0,5),(1,5),(2,5),(3,5),(4,5),(0,6),(1,6),(2,6),(3,6),(4,6),(5,6),(0,7),(1,7),(2,7),(3,7),(4,7),(5,7),(0,8),(1,8),(2,8),(3,8),(4,8),(0,10),(1,10),(2,10),(3,10),(4,10),(5,10),(6,10),(7,10),(8,10),(9,10)]∧RR zsv [oo 31 (oM 6),oo 32 (oC .neq 41 31 0)]∧RR zsu [oo 33 (oM 6),oo 2 (oG 33)]∧RR zs3 [oo 34 (oM 3),oo 35 (oF 103 5 0),oo 36 (oL 9 35),⟨none,.mapUpdate 188 (.tmp 34) (.tmp 36) (.const (.bool true)),none⟩]∧RR zs2 [oo 37 (oC .add 3 13 1),oo 13 (oM 37)]∧RI zi4 (.seq (zsy) (.seq (.cond (.tmp 14) (.skip) (.exit 0)) (.seq (.block 1 (.seq (zsx) (.seq (.seq (zsw) (.seq (zsv) (.cond (.tmp 32) (.seq (zsu) (.ret)) (.skip)))) (zs3)))) (zs2))))∧xv T 84 zi4 [3,11,12,13]∧RR zlh [oo 2 (oi 0)]∧zf T 84 [.tmp 2] false:=by refine⟨zz T ?_,zz T ?_,zz T ?_,zz T ?_,zz T ?_,zz T ?_,zz T ?_,xo T (id:=7) ?_ ?_,zz T ?_,zz T ?_,zz T ?_,zz T ?_,zi T ?_,xk T ?_,zz T ?_,zh T (F:=f84) ?_ ?_ ?_⟩<;>kernel_rfl
def zst:=nv 2 f85
def zss:=nv 6 f85
def zsr:=nv 28 f85
def zi3:=nv 116 f85
def zsq:=nv 232 f85
def zsp:=nv 3736 f85
def zso:=nv 3737 f85
def zsn:=nv 935 f85
def zlg:=nv 30 f85
theorem yzn:qy T 85 22 (.seq (zst) (.seq (zss) (.seq (.seq (zsr) (.block 0 (.loop zi3))) (.seq (zlg) (.ret))))):=zp T (F:=f85) (by kernel_rfl) (by kernel_rfl) (by kernel_rfl)
@[go_sem↓]theorem run85:RR zst [oo 4 on]∧RR zss [oo 5 on]∧RR zsr [oo 8 (oM 0),oo 9 (oN 8 74),oo 10 (.move (.const (.int .i64 0)))]∧RR zsq [oo 11 (oB .lss 3 10 9)]∧RR zsp [oo 12 (oI 74 8 10),oo 13 (oL 103 12),oo 7 (.alloc 103),ow 103 7 13]∧RR zso [oo 14 (oM 5),oo 15 (oM 1),oo 16 (oL 103 7),oo 17 (.call ⟨.value (.tmp 15),#[.tmp 16],#[103]⟩),oo 18 (oS 114 17),oo 19 (oA 14 18 114),oo 5 (oG 19)]∧RR zsn [oo 20 (oC .add 3 10 1),oo 10 (oM 20)]∧RI zi3 (.seq (zsq) (.seq (.cond (.tmp 11) (.skip) (.exit 0)) (.seq (.block 1 (.seq (zsp) (zso))) (zsn))))∧xv T 85 zi3 [1,5,8,9,10]∧RR zlg [oo 21 (oM 5),oo 4 (oG 21)]∧zf T 85 [.tmp 4] false:=by refine⟨zz T ?_,zz T ?_,zz T ?_,zz T ?_,zz T ?_,zz T ?_,zz T ?_,zi T ?_,xk T ?_,zz T ?_,zh T (F:=f85) ?_ ?_ ?_⟩<;>kernel_rfl
def zxq:=nv 2 f47
def zxp:=nv 6 f47
theorem xab:qy T 47 16 (.seq (zxq) (.seq (zxp) (.ret))):=zp T (F:=f47) (by kernel_rfl) (by kernel_rfl) (by kernel_rfl)
@[go_sem↓]theorem run47:RR zxq [oo 6 (oi 0)]∧RR zxp [oo 7 (oM 0),oo 8 (oM 1),oo 9 (oB .lss 3 7 8),oo 10 (oM 9),of 11 (oM 0) 10,of 12 (oM 2) 10,of 13 (oB .gtr 3 11 12) 10,oo 14 (.pick (.tmp 10) (.const (.bool true)) (.tmp 13)),oo 15 (.call ⟨.value (.func 29),#[.tmp 14,.const (.int .i64 3)],#[4,41]⟩),oo 6 (oG 15)]∧zf T 47 [.tmp 6] false:=by refine⟨zz T ?_,zz T ?_,zh T (F:=f47) ?_ ?_ ?_⟩<;>kernel_rfl
@[go_sem]theorem fr121:qv T 121 false none false∧zm T 121 114:=by refine⟨⟨?_,?_,?_⟩,zl T (F:=f121) ?_ ?_⟩<;>kernel_rfl
def yes:=nv 2 f121
def yer:=nv 6 f121
def yeq:=nv 28 f121
def zjl:=nv 116 f121
def yep:=nv 232 f121
def yeo:=nv 3736 f121
def yen:=nv 3737 f121
def yem:=nv 935 f121
def zl2:=nv 30 f121
theorem xa2:qy T 121 22 (.seq (yes) (.seq (yer) (.seq (.seq (yeq) (.block 0 (.loop zjl))) (.seq (zl2) (.ret))))):=zp T (F:=f121) (by kernel_rfl) (by kernel_rfl) (by kernel_rfl)
@[go_sem↓]theorem run121:RR yes [oo 4 on]∧RR yer [oo 5 on]∧RR yeq [oo 8 (oM 0),oo 9 (oN 8 101),oo 10 (.move (.const (.int .i64 0)))]∧RR yep [oo 11 (oB .lss 3 10 9)]∧RR yeo [oo 12 (oI 101 8 10),oo 13 (oL 100 12),oo 7 (.alloc 100),ow 100 7 13]∧RR yen [oo 14 (oM 5),oo 15 (oM 1),oo 16 (oL 100 7),oo 17 (.call ⟨.value (.tmp 15),#[.tmp 16],#[100]⟩),oo 18 (oS 114 17),oo 19 (oA 14 18 114),oo 5 (oG 19)]∧RR yem [oo 20 (oC .add 3 10 1),oo 10 (oM 20)]∧RI zjl (.seq (yep) (.seq (.cond (.tmp 11) (.skip) (.exit 0)) (.seq (.block 1 (.seq (yeo) (yen))) (yem))))∧xv T 121 zjl [1,5,8,9,10]∧RR zl2 [oo 21 (oM 5),oo 4 (oG 21)]∧zf T 121 [.tmp 4] false:=by refine⟨zz T ?_,zz T ?_,zz T ?_,zz T ?_,zz T ?_,zz T ?_,zz T ?_,zi T ?_,xk T ?_,zz T ?_,zh T (F:=f121) ?_ ?_ ?_⟩<;>kernel_rfl
@[go_sem]theorem fr122:qv T 122 false none false∧zm T 122 41:=by refine⟨⟨?_,?_,?_⟩,zl T (F:=f122) ?_ ?_⟩<;>kernel_rfl
def yel:=nv 2 f122
def yek:=nv 6 f122
theorem xa1:qy T 122 17 (.seq (yel) (.seq (yek) (.ret))):=zp T (F:=f122) (by kernel_rfl) (by kernel_rfl) (by kernel_rfl)
@[go_sem↓]theorem run122:RR yel [oo 1 (.box 100 (.tmp 0)),oo 2 (oi 0)]∧RD yek 122 [oo 3 (oF 100 1 0),oo 4 (oL 3 3),oo 5 (o1 81 4 3),oo 6 (oF 100 1 1),oo 7 (oL 3 6),oo 8 (o1 81 7 3),oo 9 (oF 100 1 0),oo 10 (oL 3 9),oo 11 (oF 100 1 1),oo 12 (oL 3 11),oo 13 (oB .gtr 3 10 12),oo 14 (.call ⟨.value (.func 29),#[.tmp 13,.const (.int .i64 11)],#[4,41]⟩),oo 15 (.buildSlice 114 3 #[(0,.tmp 5),(1,.tmp 8),(2,.tmp 14)]),oo 16 (o1 24 15 114),oo 2 (oG 16)] [(0,3),(1,3),(2,3),(0,4),(1,4),(2,4),(0,6),(1,6),(2,6),(3,6),(4,6),(5,6),(0,7),(1,7),(2,7),(3,7),(4,7),(5,7),(0,8),(1,8),(2,8),(3,8),(4,8),(5,8),(6,8),(7,8),(0,9),(1,9),(2,9),(3,9),(4,9),(5,9),(6,9),(7,9),(0,10),(1,10),(2,10),(3,10),(4,10),(5,10)]∧zf T 122 [.tmp 2] false:=by refine⟨zz T ?_,xo T (id:=1) ?_ ?_,zh T (F:=f122) ?_ ?_ ?_⟩<;>kernel_rfl
@[go_sem]theorem yyj:qv T 123 true none false:=⟨by kernel_rfl,by kernel_rfl,by kernel_rfl⟩
@[go_sem]theorem ypz:zcw T 123:=zem T (F:=f123) (by kernel_rfl) (by kernel_rfl)
def yft:=nv 2 f112
def yfs:=nv 6 f112
def yfr:=nv 14 f112
def yfq:=nv 30 f112
def yfp:=nv 62 f112
theorem xa8:qy T 112 19 (.seq (yft) (.seq (yfs) (.seq (yfr) (.seq (yfq) (.seq (yfp) (.ret)))))):=zp T (F:=f112) (by kernel_rfl) (by kernel_rfl) (by kernel_rfl)
@[go_sem↓]theorem run112:RR yft [oo 2 (oi 0)]∧RR yfs [oo 4 (oM 0),oo 5 (oN 4 39),oo 6 (.makeSlice 39 (.tmp 5) (.tmp 5)),oo 3 (oG 6)]∧RR yfr [oo 7 (oM 3),oo 8 (oM 0),oo 9 (.call ⟨.builtin .copy,#[.tmp 7,.tmp 8],#[39,39]⟩)]∧RR yfq [oo 10 (oM 3),oo 11 (o1 123 10 39)]∧RR yfp [oo 12 (oM 3),oo 13 (oM 3),oo 14 (oN 13 39),oo 15 (oC .sub 3 14 1),oo 16 (oC .quo 3 15 2),oo 17 (oI 39 12 16),oo 18 (oL 3 17),oo 2 (oG 18)]∧zf T 112 [.tmp 2] false:=by refine⟨zz T ?_,zz T ?_,zz T ?_,zz T ?_,zz T ?_,zh T (F:=f112) ?_ ?_ ?_⟩<;>kernel_rfl
def yfo:=nv 2 f113
def yfn:=nv 6 f113
def yfm:=nv 28 f113
def zjn:=nv 116 f113
def yfl:=nv 232 f113
def yfk:=nv 3736 f113
def yfj:=nv 3737 f113
def yfi:=nv 935 f113
def zl3:=nv 30 f113
theorem xa7:qy T 113 22 (.seq (yfo) (.seq (yfn) (.seq (.seq (yfm) (.block 0 (.loop zjn))) (.seq (zl3) (.ret))))):=zp T (F:=f113) (by kernel_rfl) (by kernel_rfl) (by kernel_rfl)
@[go_sem↓]theorem run113:RR yfo [oo 4 on]∧RR yfn [oo 5 on]∧RR yfm [oo 8 (oM 0),oo 9 (oN 8 73),oo 10 (.move (.const (.int .i64 0)))]∧RR yfl [oo 11 (oB .lss 3 10 9)]∧RR yfk [oo 12 (oI 73 8 10),oo 13 (oL 39 12),oo 7 (oG 13)]∧RR yfj [oo 14 (oM 5),oo 15 (oM 1),oo 16 (oM 7),oo 17 (.call ⟨.value (.tmp 15),#[.tmp 16],#[39]⟩),oo 18 (oS 39 17),oo 19 (oA 14 18 39),oo 5 (oG 19)]∧RR yfi [oo 20 (oC .add 3 10 1),oo 10 (oM 20)]∧RI zjn (.seq (yfl) (.seq (.cond (.tmp 11) (.skip) (.exit 0)) (.seq (.block 1 (.seq (yfk) (yfj))) (yfi))))∧xv T 113 zjn [1,5,8,9,10]∧RR zl3 [oo 21 (oM 5),oo 4 (oG 21)]∧zf T 113 [.tmp 4] false:=by refine⟨zz T ?_,zz T ?_,zz T ?_,zz T ?_,zz T ?_,zz T ?_,zz T ?_,zi T ?_,xk T ?_,zz T ?_,zh T (F:=f113) ?_ ?_ ?_⟩<;>kernel_rfl
def yfh:=nv 2 f114
def yfg:=nv 6 f114
theorem xa6:qy T 114 8 (.seq (yfh) (.seq (yfg) (.ret))):=zp T (F:=f114) (by kernel_rfl) (by kernel_rfl) (by kernel_rfl)
@[go_sem↓]theorem run114:RR yfh [oo 3 (oi 0)]∧RR yfg [oo 4 (oM 0),oo 5 (oL 3 1),oo 6 (oI 39 4 5),oo 7 (oL 3 6),oo 3 (oG 7)]∧zf T 114 [.tmp 3] false:=by refine⟨zz T ?_,zz T ?_,zh T (F:=f114) ?_ ?_ ?_⟩<;>kernel_rfl
def zsf:=nv 2 f87
def zse:=nv 6 f87
def zsd:=nv 28 f87
def zi1:=nv 116 f87
def zsc:=nv 232 f87
def zsb:=nv 3736 f87
def zsa:=nv 3737 f87
def zr9:=nv 935 f87
def zle:=nv 30 f87
theorem yzl:qy T 87 22 (.seq (zsf) (.seq (zse) (.seq (.seq (zsd) (.block 0 (.loop zi1))) (.seq (zle) (.ret))))):=zp T (F:=f87) (by kernel_rfl) (by kernel_rfl) (by kernel_rfl)
@[go_sem↓]theorem run87:RR zsf [oo 4 on]∧RR zse [oo 5 on]∧RR zsd [oo 8 (oM 0),oo 9 (oN 8 73),oo 10 (.move (.const (.int .i64 0)))]∧RR zsc [oo 11 (oB .lss 3 10 9)]∧RR zsb [oo 12 (oI 73 8 10),oo 13 (oL 39 12),oo 7 (oG 13)]∧RR zsa [oo 14 (oM 5),oo 15 (oM 1),oo 16 (oM 7),oo 17 (.call ⟨.value (.tmp 15),#[.tmp 16],#[39]⟩),oo 18 (oS 73 17),oo 19 (oA 14 18 73),oo 5 (oG 19)]∧RR zr9 [oo 20 (oC .add 3 10 1),oo 10 (oM 20)]∧RI zi1 (.seq (zsc) (.seq (.cond (.tmp 11) (.skip) (.exit 0)) (.seq (.block 1 (.seq (zsb) (zsa))) (zr9))))∧xv T 87 zi1 [1,5,8,9,10]∧RR zle [oo 21 (oM 5),oo 4 (oG 21)]∧zf T 87 [.tmp 4] false:=by refine⟨zz T ?_,zz T ?_,zz T ?_,zz T ?_,zz T ?_,zz T ?_,zz T ?_,zi T ?_,xk T ?_,zz T ?_,zh T (F:=f87) ?_ ?_ ?_⟩<;>kernel_rfl
def zr8:=nv 2 f88
def zr7:=nv 6 f88
def zr6:=nv 28 f88
def zi0:=nv 116 f88
def zr5:=nv 232 f88
def zr4:=nv 3736 f88
def zr3:=nv 3737 f88
def zr2:=nv 935 f88
def zld:=nv 30 f88
theorem yzk:qy T 88 25 (.seq (zr8) (.seq (zr7) (.seq (.seq (zr6) (.block 0 (.loop zi0))) (.seq (zld) (.ret))))):=zp T (F:=f88) (by kernel_rfl) (by kernel_rfl) (by kernel_rfl)
@[go_sem↓]theorem run88:RR zr8 [oo 3 on]∧RR zr7 [oo 4 on]∧RR zr6 [oo 7 (oM 0),oo 8 (oN 7 39),oo 9 (.move (.const (.int .i64 0)))]∧RR zr5 [oo 10 (oB .lss 3 9 8)]∧RR zr4 [oo 11 (oM 9),oo 12 (oI 39 7 9),oo 13 (oL 3 12),oo 5 (oG 11),oo 6 (oG 13)]∧RR zr3 [oo 14 (oM 4),oo 15 (oL 39 1),oo 16 (oM 5),oo 17 (oI 39 15 16),oo 18 (oL 3 17),oo 19 (oM 6),oo 20 (oB .sub 3 18 19),oo 21 (oS 39 20),oo 22 (oA 14 21 39),oo 4 (oG 22)]∧RR zr2 [oo 23 (oC .add 3 9 1),oo 9 (oM 23)]∧RI zi0 (.seq (zr5) (.seq (.cond (.tmp 10) (.skip) (.exit 0)) (.seq (.block 1 (.seq (zr4) (zr3))) (zr2))))∧xv T 88 zi0 [1,4,7,8,9]∧RR zld [oo 24 (oM 4),oo 3 (oG 24)]∧zf T 88 [.tmp 3] false:=by refine⟨zz T ?_,zz T ?_,zz T ?_,zz T ?_,zz T ?_,zz T ?_,zz T ?_,zi T ?_,xk T ?_,zz T ?_,zh T (F:=f88) ?_ ?_ ?_⟩<;>kernel_rfl
def yg2:=nv 2 f103
def yg1:=nv 12 f103
def zjp:=nv 52 f103
def yg0:=nv 104 f103
def ygz:=nv 844 f103
def ygy:=nv 1690 f103
def ygx:=nv 3382 f103
def ygw:=nv 13532 f103
def zl5:=nv 14 f103
theorem xbe:qy T 103 51 (.seq (yg2) (.seq (.seq (yg1) (.block 0 (.loop zjp))) (.seq (zl5) (.ret)))):=zp T (F:=f103) (by kernel_rfl) (by kernel_rfl) (by kernel_rfl)
@[go_sem↓]theorem run103:RR yg2 [oo 2 (.assign (.const (.bool false)))]∧RR yg1 [oo 6 (oM 0),oo 7 (.range 9 (.tmp 6))]∧RR yg0 [oo 8 (.next (.tmp 7) true),oo 9 (oX 8 0)]∧RR ygz [oo 10 (oX 8 1),oo 11 (oX 8 2),oo 3 (oG 10),oo 4 (oG 11)]∧RR ygy [oo 12 (oM 4),oo 13 (.binOp .geq 21 (.tmp 12) (.const (.int .i32 97)) 21),oo 14 (oM 13),ot 15 (oM 4) 14,ot 16 (.binOp .leq 21 (.tmp 15) (.const (.int .i32 122)) 21) 14,oo 17 (.pick (.tmp 14) (.tmp 16) (.const (.bool false))),oo 18 (oM 17),of 19 (oM 4) 18,of 20 (.binOp .geq 21 (.tmp 19) (.const (.int .i32 65)) 21) 18,of 21 (oM 20) 18,ot 22 (oM 4) 21,ot 23 (.binOp .leq 21 (.tmp 22) (.const (.int .i32 90)) 21) 21,of 24 (.pick (.tmp 21) (.tmp 23) (.const (.bool false))) 18,oo 25 (.pick (.tmp 18) (.const (.bool true)) (.tmp 24)),oo 5 (oG 25)]∧RR ygx [oo 26 (oM 5),oo 27 (.unOp .not 4 (.tmp 26)),oo 28 (oM 27),ot 29 (oM 3) 28,ot 30 (oC .eql 3 29 0) 28,ot 31 (oM 30) 28,of 32 (oM 4) 31,of 33 (.binOp .neq 21 (.tmp 32) (.const (.int .i32 95)) 21) 31,of 34 (oM 33) 31,ot 35 (oM 4) 34,ot 36 (.binOp .lss 21 (.tmp 35) (.const (.int .i32 48)) 21) 34,ot 37 (oM 36) 34,of 38 (oM 4) 37,of 39 (.binOp .gtr 21 (.tmp 38) (.const (.int .i32 57)) 21) 37,ot 40 (.pick (.tmp 37) (.const (.bool true)) (.tmp 39)) 34,of 41 (.pick (.tmp 34) (.tmp 40) (.const (.bool false))) 31,ot 42 (.pick (.tmp 31) (.const (.bool true)) (.tmp 41)) 28,oo 43 (.pick (.tmp 28) (.tmp 42) (.const (.bool false)))]∧RR ygw [oo 2 (.assign (.const (.bool false)))]∧RI zjp (.seq (yg0) (.seq (.cond (.tmp 9) (.skip) (.exit 0)) (.block 1 (.seq (ygz) (.seq (ygy) (.seq (ygx) (.cond (.tmp 43) (.seq (ygw) (.ret)) (.skip))))))))∧xv T 103 zjp [0,7]∧RR zl5 [oo 44 (oM 0),oo 45 (.binOp .neq 9 (.tmp 44) (.const (.string ⟨#[]⟩)) 9),oo 46 (oM 45),ot 47 (oM 0) 46,ot 48 (oN 47 9) 46,ot 49 (oC .leq 3 48 24) 46,oo 50 (.pick (.tmp 46) (.tmp 49) (.const (.bool false))),oo 2 (oG 50)]∧zf T 103 [.tmp 2] false:=by refine⟨zz T ?_,zz T ?_,zz T ?_,zz T ?_,zz T ?_,zz T ?_,zz T ?_,zi T ?_,xk T ?_,zz T ?_,zh T (F:=f103) ?_ ?_ ?_⟩<;>kernel_rfl
def yfv:=nv 2 f111
def yfu:=nv 6 f111
theorem xa9:qy T 111 16 (.seq (yfv) (.seq (yfu) (.ret))):=zp T (F:=f111) (by kernel_rfl) (by kernel_rfl) (by kernel_rfl)
@[go_sem↓]theorem run111:RR yfv [oo 1 (.box 103 (.tmp 0)),oo 2 (oi 0)]∧RD yfu 111 [oo 3 (oF 103 1 1),oo 4 (oL 3 3),oo 5 (.call ⟨.value (.func 47),#[.tmp 4,.const (.int .i64 0),.const (.int .i64 7)],#[3,3,3]⟩),oo 6 (oF 103 1 2),oo 7 (oL 101 6),oo 8 (oN 7 101),oo 9 (.call ⟨.value (.func 33),#[.tmp 8,.const (.int .i64 8)],#[3,3]⟩),oo 10 (oF 103 1 2),oo 11 (oL 101 10),oo 12 (.call ⟨.value (.func 121),#[.tmp 11,.func 122],#[101,207]⟩),oo 13 (o1 24 12 114),oo 14 (.buildSlice 114 3 #[(0,.tmp 5),(1,.tmp 9),(2,.tmp 13)]),oo 15 (o1 24 14 114),oo 2 (oG 15)] [(0,3),(1,3),(2,3),(0,4),(1,4),(2,4),(0,5),(1,5),(2,5),(0,7),(1,7),(2,7),(3,7),(4,7),(5,7),(6,7),(0,8),(1,8),(2,8),(3,8),(4,8),(5,8),(6,8)]∧zf T 111 [.tmp 2] false:=by refine⟨zz T ?_,xo T (id:=1) ?_ ?_,zh T (F:=f111) ?_ ?_ ?_⟩<;>kernel_rfl
@[go_sem]theorem fr116:qv T 116 false none false∧zm T 116 3:=by refine⟨⟨?_,?_,?_⟩,zl T (F:=f116) ?_ ?_⟩<;>kernel_rfl
@[go_sem]theorem yyi:qv T 134 true none false:=⟨by kernel_rfl,by kernel_rfl,by kernel_rfl⟩
@[go_sem]theorem ypy:zcw T 134:=zem T (F:=f134) (by kernel_rfl) (by kernel_rfl)
def yej:=nv 2 f123
def yei:=nv 3 f123
theorem xa0:qy T 123 11 (.seq (yej) (yei)):=zp T (F:=f123) (by kernel_rfl) (by kernel_rfl) (by kernel_rfl)
@[go_sem↓]theorem run123:RR yej [oo 3 (oM 0),oo 4 (oN 3 39),oo 2 (oG 4)]∧RR yei [oo 5 (oM 0),oo 6 (oM 2),oo 7 (oM 2),oo 8 (.convert 3 199 (.tmp 7)),oo 9 (o1 116 8 199),oo 10 (.call ⟨.value (.func 134),#[.tmp 5,.const (.int .i64 0),.tmp 6,.tmp 9],#[39,3,3,3]⟩)]∧zf T 123 [] true:=by refine⟨zz T ?_,zz T ?_,zh T (F:=f123) ?_ ?_ ?_⟩<;>kernel_rfl
@[go_sem]theorem yyh:qv T 140 true none false:=⟨by kernel_rfl,by kernel_rfl,by kernel_rfl⟩
@[go_sem]theorem ypx:zcw T 140:=zem T (F:=f140) (by kernel_rfl) (by kernel_rfl)
@[go_sem]theorem fr146:qv T 146 false none false∧zm T 146 4:=by refine⟨⟨?_,?_,?_⟩,zl T (F:=f146) ?_ ?_⟩<;>kernel_rfl
def yeh:=nv 2 f134
def yeg:=nv 6 f134
def zok:=nv 28 f134
def yd5:=nv 112 f134
def ydu:=nv 452 f134
def yds:=nv 1812 f134
def ydr:=nv 908 f134
def ydq:=nv 3636 f134
def ydp:=nv 1820 f134
def ydo:=nv 7284 f134
def ydn:=nv 7285 f134
def yef:=nv 1822 f134
def yee:=nv 7292 f134
def yed:=nv 29172 f134
def yec:=nv 58346 f134
def yeb:=nv 58347 f134
def yea:=nv 14588 f134
def yd9:=nv 58356 f134
def yd8:=nv 29180 f134
def yd7:=nv 116724 f134
def yd6:=nv 233450 f134
def yd4:=nv 29182 f134
def yd3:=nv 58366 f134
def yd2:=nv 116734 f134
def yd1:=nv 233470 f134
def yd0:=nv 466942 f134
def ydz:=nv 1867772 f134
def ydy:=nv 3735546 f134
def ydx:=nv 3735547 f134
def ydw:=nv 1867774 f134
def ydv:=nv 3735550 f134
def ydt:=nv 3735551 f134
theorem xay:qy T 134 134 (.seq (yeh) (.seq (yeg) (.block 0 (.loop zok)))):=zp T (F:=f134) (by kernel_rfl) (by kernel_rfl) (by kernel_rfl)
@[go_sem↓]theorem run134:RR yeh [oo 8 (.assign (.const (.bool true)))]∧RR yeg [oo 9 (.assign (.const (.bool true)))]∧RR yd5 [oo 19 (oM 2),oo 20 (oM 1),oo 21 (oB .sub 3 19 20),oo 10 (oG 21)]∧RR ydu [oo 22 (oM 10),oo 23 (oC .leq 3 22 12)]∧RR yds [oo 24 (oM 0),oo 25 (oM 1),oo 26 (oM 2),oo 27 (.call ⟨.value (.func 140),#[.tmp 24,.tmp 25,.tmp 26],#[39,3,3]⟩)]∧RR ydr [oo 28 (oM 3),oo 29 (oC .eql 3 28 0)]∧RR ydq [oo 30 (oM 0),oo 31 (oM 1),oo 32 (oM 2),oo 33 (.call ⟨.value (.func 141),#[.tmp 30,.tmp 31,.tmp 32],#[39,3,3]⟩)]∧RR ydp [oo 34 (oM 8),oo 35 (.unOp .not 4 (.tmp 34))]∧RR ydo [oo 36 (oM 0),oo 37 (oM 1),oo 38 (oM 2),oo 39 (.call ⟨.value (.func 142),#[.tmp 36,.tmp 37,.tmp 38],#[39,3,3]⟩)]∧RR ydn [oo 40 (oM 3),oo 41 (oC .sub 3 40 1),oo 3 (oG 41)]∧RR yef [oo 43 (oM 0),oo 44 (oM 1),oo 45 (oM 2),oo 46 (.call ⟨.value (.func 143),#[.tmp 43,.tmp 44,.tmp 45],#[39,3,3]⟩),oo 42 (oM 46),oo 47 (oX 42 0),oo 48 (oX 42 1),oo 11 (oG 47),oo 12 (oG 48)]∧RR yee [oo 49 (oM 12),oo 50 (oC .eql 210 49 2)]∧RR yed [oo 51 (oM 0),oo 52 (oM 1),oo 53 (oM 2),oo 54 (.call ⟨.value (.func 144),#[.tmp 51,.tmp 52,.tmp 53],#[39,3,3]⟩)]∧RR yec [oo 55 (oM 2),oo 56 (oC .sub 3 55 1),oo 57 (oM 11),oo 58 (oM 1),oo 59 (oB .sub 3 57 58),oo 60 (oB .sub 3 56 59),oo 11 (oG 60)]∧RR yeb [oo 12 (oi 1)]∧RR yea [oo 61 (oM 8),oo 62 (oM 61),ot 63 (oM 9) 62,oo 64 (.pick (.tmp 62) (.tmp 63) (.const (.bool false))),oo 65 (oM 64),ot 66 (oM 12) 65,ot 67 (oC .eql 210 66 1) 65,oo 68 (.pick (.tmp 65) (.tmp 67) (.const (.bool false)))]∧RR yd9 [oo 69 (oM 0),oo 70 (oM 1),oo 71 (oM 2),oo 72 (.call ⟨.value (.func 145),#[.tmp 69,.tmp 70,.tmp 71],#[39,3,3]⟩)]∧RD yd8 134 [oo 73 (oM 1),oo 74 (oC .gtr 3 73 0),oo 75 (oM 74),ot 76 (oM 0) 75,ot 77 (oM 1) 75,ot 78 (oC .sub 3 77 1) 75,ot 79 (oI 39 76 78) 75,ot 80 (oL 3 79) 75,ot 81 (oM 0) 75,ot 82 (oM 11) 75,ot 83 (oI 39 81 82) 75,ot 84 (oL 3 83) 75,ot 85 (o2 146 80 84 3 3) 75,ot 86 (.unOp .not 4 (.tmp 85)) 75,oo 87 (.pick (.tmp 75) (.tmp 86) (.const (.bool false)))] [(3,4),(3,5),(3,8),(4,8),(5,8),(6,8),(7,8),(3,9),(4,9),(5,9),(6,9),(7,9),(8,9),(3,10),(4,10),(5,10),(6,10),(7,10),(3,11),(4,11),(5,11),(6,11),(7,11)]∧RR yd7 [oo 88 (oM 0),oo 89 (oM 1),oo 90 (oM 2),oo 91 (oM 11),oo 92 (.call ⟨.value (.func 147),#[.tmp 88,.tmp 89,.tmp 90,.tmp 91],#[39,3,3,3]⟩),oo 13 (oG 92)]∧RR yd6 [oo 93 (oM 13),oo 1 (oG 93)]∧RR yd4 [oo 95 (oM 0),oo 96 (oM 1),oo 97 (oM 2),oo 98 (oM 11),oo 99 (.call ⟨.value (.func 148),#[.tmp 95,.tmp 96,.tmp 97,.tmp 98],#[39,3,3,3]⟩),oo 94 (oM 99),oo 100 (oX 94 0),oo 101 (oX 94 1),oo 14 (oG 100),oo 15 (oG 101)]∧RR yd3 [oo 102 (oM 15),oo 9 (oG 102)]∧RR yd2 [oo 103 (oM 14),oo 104 (oM 1),oo 105 (oB .sub 3 103 104),oo 106 (oM 2),oo 107 (oM 14),oo 108 (oB .sub 3 106 107),oo 16 (oG 105),oo 17 (oG 108)]∧RR yd1 [oo 109 (oM 10),oo 110 (oC .quo 3 109 8),oo 18 (oG 110)]∧RR yd0 [oo 111 (oM 16),oo 112 (oM 17),oo 113 (oB .lss 3 111 112)]∧RR ydz [oo 114 (oM 16),oo 115 (oM 18),oo 116 (oB .geq 3 114 115),oo 8 (oG 116)]∧RR ydy [oo 117 (oM 0),oo 118 (oM 1),oo 119 (oM 14),oo 120 (oM 3),oo 121 (.call ⟨.value (.func 134),#[.tmp 117,.tmp 118,.tmp 119,.tmp 120],#[39,3,3,3]⟩)]∧RR ydx [oo 122 (oM 14),oo 123 (oC .add 3 122 1),oo 1 (oG 123)]∧RR ydw [oo 124 (oM 17),oo 125 (oM 18),oo 126 (oB .geq 3 124 125),oo 8 (oG 126)]∧RR ydv [oo 127 (oM 0),oo 128 (oM 14),oo 129 (oC .add 3 128 1),oo 130 (oM 2),oo 131 (oM 3),oo 132 (.call ⟨.value (.func 134),#[.tmp 127,.tmp 129,.tmp 130,.tmp 131],#[39,3,3,3]⟩)]∧RR ydt [oo 133 (oM 14),oo 2 (oG 133)]∧RI zok (.block 1 (.seq (yd5) (.seq (.seq (ydu) (.cond (.tmp 23) (.seq (yds) (.ret)) (.skip))) (.seq (.seq (ydr) (.cond (.tmp 29) (.seq (ydq) (.ret)) (.skip))) (.seq (.seq (ydp) (.cond (.tmp 35) (.seq (ydo) (ydn)) (.skip))) (.seq (yef) (.seq (.seq (yee) (.cond (.tmp 50) (.seq (yed) (.seq (yec) (yeb))) (.skip))) (.seq (.seq (yea) (.cond (.tmp 68) (.seq (yd9) (.cond (.tmp 72) (.ret) (.skip))) (.skip))) (.seq (.seq (yd8) (.cond (.tmp 87) (.seq (yd7) (.seq (yd6) (.exit 1))) (.skip))) (.seq (yd4) (.seq (yd3) (.seq (yd2) (.seq (yd1) (.seq (yd0) (.cond (.tmp 113) (.seq (ydz) (.seq (ydy) (ydx))) (.seq (ydw) (.seq (ydv) (ydt))))))))))))))))))∧xv T 134 zok [0,1,2,3,8,9]∧zf T 134 [] true:=by refine⟨zz T ?_,zz T ?_,zz T ?_,zz T ?_,zz T ?_,zz T ?_,zz T ?_,zz T ?_,zz T ?_,zz T ?_,zz T ?_,zz T ?_,zz T ?_,zz T ?_,zz T ?_,zz T ?_,zz T ?_,xo T (id:=17) ?_ ?_,zz T ?_,zz T ?_,zz T ?_,zz T ?_,zz T ?_,zz T ?_,zz T ?_,zz T ?_,zz T ?_,zz T ?_,zz T ?_,zz T ?_,zz T ?_,zi T ?_,xk T ?_,zh T (F:=f134) ?_ ?_ ?_⟩<;>kernel_rfl
def ydg:=nv 2 f140
def zf5:=nv 12 f140
def ydf:=nv 48 f140
def yde:=nv 200 f140
def zjj:=nv 804 f140
def ydd:=nv 3216 f140
def ydb:=nv 6436 f140
def ydc:=nv 3219 f140
def zl0:=nv 51 f140
theorem xaw:qy T 140 49 (.seq (ydg) (.block 0 (.loop zf5))):=zp T (F:=f140) (by kernel_rfl) (by kernel_rfl) (by kernel_rfl)
@[go_sem↓]theorem run140:RR ydg [oo 8 (oM 1),oo 9 (oC .add 3 8 1),oo 6 (oG 9)]∧RR ydf [oo 10 (oM 6),oo 11 (oM 2),oo 12 (oB .lss 3 10 11)]∧RR yde [oo 15 (oM 6),oo 7 (oG 15)]∧RD ydd 140 [oo 16 (oM 7),oo 17 (oM 1),oo 18 (oB .gtr 3 16 17),oo 19 (oM 18),ot 20 (oM 0) 19,ot 21 (oM 7) 19,ot 22 (oI 39 20 21) 19,ot 23 (oL 3 22) 19,ot 24 (oM 0) 19,ot 25 (oM 7) 19,ot 26 (oC .sub 3 25 1) 19,ot 27 (oI 39 24 26) 19,ot 28 (oL 3 27) 19,ot 29 (o2 146 23 28 3 3) 19,oo 30 (.pick (.tmp 19) (.tmp 29) (.const (.bool false)))] [(0,1),(4,5),(4,8),(5,8),(6,8),(7,8),(4,9),(5,9),(6,9),(7,9),(8,9),(4,10),(5,10),(6,10),(7,10),(8,10),(4,11),(5,11),(6,11),(7,11),(4,12),(5,12),(6,12),(7,12)]∧RD ydb 140 [oo 33 (oM 0),oo 34 (oM 7),oo 35 (oM 0),oo 36 (oM 7),oo 37 (oC .sub 3 36 1),oo 38 (oM 0),oo 39 (oM 7),oo 40 (oC .sub 3 39 1),oo 41 (oI 39 38 40),oo 42 (oL 3 41),oo 43 (oM 0),oo 44 (oM 7),oo 45 (oI 39 43 44),oo 46 (oL 3 45),oo 47 (oI 39 33 34),ow 3 47 42,oo 48 (oI 39 35 37),ow 3 48 46] [(0,1),(0,2),(1,2),(0,3),(1,3),(2,3),(0,4),(1,4),(2,4),(0,5),(1,5),(2,5),(3,5),(4,5),(0,6),(1,6),(2,6),(3,6),(4,6),(5,6),(0,7),(1,7),(2,7),(3,7),(4,7),(5,7),(0,8),(1,8),(2,8),(3,8),(4,8),(0,9),(1,9),(2,9),(3,9),(4,9),(0,10),(1,10),(2,10),(3,10),(4,10),(5,10),(6,10),(7,10),(8,10),(9,10),(0,11),(1,11),(2,11),(3,11),(4,11),(5,11),(6,11),(7,11),(8,11),(9,11),(10,11),(0,12),(1,12),(2,12),(3,12),(4,12),(5,12),(6,12),(7,12),(8,12),(9,12),(0,13),(1,13),(2,13),(3,13),(4,13),(5,13),(6,13),(7,13),(8,13),(9,13),(2,14),(3,14),(4,14),(2,15),(3,15),(4,15)]∧RR ydc [oo 31 (oM 7),oo 32 (oC .sub 3 31 1),oo 7 (oG 32)]∧RI zjj (.seq (.seq (ydd) (.cond (.tmp 30) (.skip) (.exit 2))) (.seq (.block 3 (ydb)) (ydc)))∧xv T 140 zjj [0,1,2,6,7]∧RR zl0 [oo 13 (oM 6),oo 14 (oC .add 3 13 1),oo 6 (oG 14)]∧RI zf5 (.seq (.seq (ydf) (.cond (.tmp 12) (.skip) (.exit 0))) (.seq (.block 1 (.seq (yde) (.block 2 (.loop zjj)))) (zl0)))∧xv T 140 zf5 [0,1,2,6]∧zf T 140 [] true:=by refine⟨zz T ?_,zz T ?_,zz T ?_,xo T (id:=4) ?_ ?_,xo T (id:=6) ?_ ?_,zz T ?_,zi T ?_,xk T ?_,zz T ?_,zi T ?_,xk T ?_,zh T (F:=f140) ?_ ?_ ?_⟩<;>kernel_rfl
@[go_sem]theorem fr117:qv T 117 false none false∧zm T 117 4:=by refine⟨⟨?_,?_,?_⟩,zl T (F:=f117) ?_ ?_⟩<;>kernel_rfl
def yda:=nv 2 f146
def yc9:=nv 6 f146
theorem xav:qy T 146 17 (.seq (yda) (.seq (yc9) (.ret))):=zp T (F:=f146) (by kernel_rfl) (by kernel_rfl) (by kernel_rfl)
@[go_sem↓]theorem run146:RR yda [oo 4 (.assign (.const (.bool false)))]∧RR yc9 [oo 5 (oM 0),oo 6 (o1 117 5 3),oo 7 (oM 6),ot 8 (oM 1) 7,ot 9 (o1 117 8 3) 7,ot 10 (.unOp .not 4 (.tmp 9)) 7,oo 11 (.pick (.tmp 7) (.tmp 10) (.const (.bool false))),oo 12 (oM 11),of 13 (oM 0) 12,of 14 (oM 1) 12,of 15 (oB .lss 3 13 14) 12,oo 16 (.pick (.tmp 12) (.const (.bool true)) (.tmp 15)),oo 4 (oG 16)]∧zf T 146 [.tmp 4] false:=by refine⟨zz T ?_,zz T ?_,zh T (F:=f146) ?_ ?_ ?_⟩<;>kernel_rfl
def yff:=nv 2 f117
def yfe:=nv 6 f117
theorem xa5:qy T 117 6 (.seq (yff) (.seq (yfe) (.ret))):=zp T (F:=f117) (by kernel_rfl) (by kernel_rfl) (by kernel_rfl)
@[go_sem↓]theorem run117:RR yff [oo 2 (.assign (.const (.bool false)))]∧RR yfe [oo 3 (oM 0),oo 4 (oM 0),oo 5 (oB .neq 3 3 4),oo 2 (oG 5)]∧zf T 117 [.tmp 2] false:=by refine⟨zz T ?_,zz T ?_,zh T (F:=f117) ?_ ?_ ?_⟩<;>kernel_rfl
@[go_sem]theorem fr97:qv T 97 false none false∧zm T 97 183:=by refine⟨⟨?_,?_,?_⟩,zl T (F:=f97) ?_ ?_⟩<;>kernel_rfl
@[go_sem]theorem fr119:qv T 119 true none true∧zm T 119 183:=by refine⟨⟨?_,?_,?_⟩,zl T (F:=f119) ?_ ?_⟩<;>kernel_rfl
@[go_sem]theorem fr120:qv T 120 true none false∧zm T 120 101:=by refine⟨⟨?_,?_,?_⟩,zl T (F:=f120) ?_ ?_⟩<;>kernel_rfl
def zqs:=nv 2 f97
def zqr:=nv 6 f97
def zqo:=nv 28 f97
def zfx:=nv 116 f97
def zqn:=nv 232 f97
def zqm:=nv 3736 f97
def zql:=nv 7474 f97
def zqk:=nv 14950 f97
def zix:=nv 59804 f97
def zqj:=nv 119608 f97
def zqi:=nv 1913752 f97
def zqh:=nv 3827506 f97
def zqq:=nv 3827507 f97
def zqp:=nv 478439 f97
def zk8:=nv 935 f97
def zgz:=nv 30 f97
theorem yze:qy T 97 64 (.seq (zqs) (.seq (zqr) (.seq (.seq (zqo) (.block 0 (.loop zfx))) (.seq (zgz) (.ret))))):=zp T (F:=f97) (by kernel_rfl) (by kernel_rfl) (by kernel_rfl)
@[go_sem↓]theorem run97:RR zqs [oo 2 (.box 76 (.tmp 0)),oo 4 on]∧RR zqr [oo 11 (oF 76 2 0),oo 12 (oL 73 11),oo 13 (.call ⟨.value (.func 119),#[.tmp 12,.func 120],#[73,202]⟩),oo 5 (oG 13)]∧RR zqo [oo 14 (oM 1),oo 15 (oN 14 39),oo 16 (.move (.const (.int .i64 0)))]∧RR zqn [oo 17 (oB .lss 3 16 15)]∧RR zqm [oo 18 (oI 39 14 16),oo 19 (oL 3 18),oo 7 (oG 19)]∧RR zql [oo 20 (oF 76 2 2),oo 21 (oL 74 20),oo 22 (oM 7),oo 23 (oI 74 21 22),oo 24 (oL 103 23),oo 8 (.alloc 103),ow 103 8 24]∧RR zqk [oo 25 (oF 103 8 2),oo 26 (oL 101 25),oo 27 (oN 26 101),oo 28 (.move (.const (.int .i64 0)))]∧RR zqj [oo 29 (oB .lss 3 28 27)]∧RR zqi [oo 30 (oM 28),oo 31 (oI 101 26 28),oo 32 (oL 100 31),oo 10 (.alloc 100),oo 9 (oG 30),ow 100 10 32]∧RD zqh 97 [oo 33 (oM 5),oo 34 (oF 103 8 1),oo 35 (oL 3 34),oo 36 (oI 183 33 35),oo 37 (oL 101 36),oo 38 (oM 9),oo 39 (oI 101 37 38),oo 40 (oF 100 39 0),oo 41 (oL 3 40),oo 42 (oF 100 10 0),oo 43 (oL 3 42),oo 44 (oB .add 3 41 43),oo 45 (oI 101 37 38),oo 46 (oF 100 45 0),ow 3 46 44] [(0,1),(0,2),(0,5),(1,5),(2,5),(3,5),(4,5),(0,9),(1,9),(2,9),(3,9),(4,9),(5,9),(6,9),(7,9),(8,9),(0,10),(1,10),(2,10),(3,10),(4,10),(5,10),(6,10),(7,10),(8,10)]∧RD zqq 97 [oo 47 (oM 5),oo 48 (oF 103 8 1),oo 49 (oL 3 48),oo 50 (oI 183 47 49),oo 51 (oL 101 50),oo 52 (oM 9),oo 53 (oI 101 51 52),oo 54 (oF 100 53 1),oo 55 (oL 3 54),oo 56 (oF 100 10 1),oo 57 (oL 3 56),oo 58 (oB .add 3 55 57),oo 59 (oI 101 51 52),oo 60 (oF 100 59 1),ow 3 60 58] [(0,1),(0,2),(0,5),(1,5),(2,5),(3,5),(4,5),(0,9),(1,9),(2,9),(3,9),(4,9),(5,9),(6,9),(7,9),(8,9),(0,10),(1,10),(2,10),(3,10),(4,10),(5,10),(6,10),(7,10),(8,10)]∧RR zqp [oo 61 (oC .add 3 28 1),oo 28 (oM 61)]∧RI zix (.seq (zqj) (.seq (.cond (.tmp 29) (.skip) (.exit 2)) (.seq (.block 3 (.seq (zqi) (.seq (zqh) (zqq)))) (zqp))))∧xv T 97 zix [2,5,8,14,15,16,26,27,28]∧RR zk8 [oo 62 (oC .add 3 16 1),oo 16 (oM 62)]∧RI zfx (.seq (zqn) (.seq (.cond (.tmp 17) (.skip) (.exit 0)) (.seq (.block 1 (.seq (zqm) (.seq (zql) (.seq (zqk) (.block 2 (.loop zix)))))) (zk8))))∧xv T 97 zfx [2,5,14,15,16]∧RR zgz [oo 63 (oM 5),oo 4 (oG 63)]∧zf T 97 [.tmp 4] false:=by refine⟨zz T ?_,zz T ?_,zz T ?_,zz T ?_,zz T ?_,zz T ?_,zz T ?_,zz T ?_,zz T ?_,xo T (id:=9) ?_ ?_,xo T (id:=10) ?_ ?_,zz T ?_,zi T ?_,xk T ?_,zz T ?_,zi T ?_,xk T ?_,zz T ?_,zh T (F:=f97) ?_ ?_ ?_⟩<;>kernel_rfl
@[go_sem]theorem fr53:qv T 53 false none false∧zm T 53 34:=by refine⟨⟨?_,?_,?_⟩,zl T (F:=f53) ?_ ?_⟩<;>kernel_rfl
@[go_sem]theorem fr101:qv T 101 false none false∧zm T 101 34:=by refine⟨⟨?_,?_,?_⟩,zl T (F:=f101) ?_ ?_⟩<;>kernel_rfl
def zv5:=nv 2 f53
def zv4:=nv 6 f53
theorem yz5:qy T 53 5 (.seq (zv5) (.seq (zv4) (.ret))):=zp T (F:=f53) (by kernel_rfl) (by kernel_rfl) (by kernel_rfl)
@[go_sem↓]theorem run53:RR zv5 [oo 2 on]∧RR zv4 [oo 3 (oM 0),oo 4 (.call ⟨.value (.func 101),#[.const (.slice none 0 0),.tmp 3],#[34,136]⟩),oo 2 (oG 4)]∧zf T 53 [.tmp 2] false:=by refine⟨zz T ?_,zz T ?_,zh T (F:=f53) ?_ ?_ ?_⟩<;>kernel_rfl
@[go_sem]theorem fr46:qv T 46 false none false∧zm T 46 136:=by refine⟨⟨?_,?_,?_⟩,zl T (F:=f46) ?_ ?_⟩<;>kernel_rfl
@[go_sem]theorem zaf:qv T 98 false none false:=⟨by kernel_rfl,by kernel_rfl,by kernel_rfl⟩
@[go_sem]theorem zel:zcw T 98:=zem T (F:=f98) (by kernel_rfl) (by kernel_rfl)
def zxt:=nv 2 f46
def zxs:=nv 6 f46
def zxr:=nv 14 f46
theorem xac:qy T 46 13 (.seq (zxt) (.seq (zxs) (.seq (zxr) (.ret)))):=zp T (F:=f46) (by kernel_rfl) (by kernel_rfl) (by kernel_rfl)
@[go_sem↓]theorem run46:RR zxt [oo 2 (.box 76 (.tmp 0)),oo 4 (.assign (.const (.nilFunc)))]∧RD zxs 46 [oo 7 (oL 76 2),oo 8 (o1 42 7 76),oo 9 (oL 76 2),oo 10 (oM 1),oo 11 (o2 97 9 10 76 39),oo 5 (.alloc 73),oo 6 (.alloc 183),ow 73 5 8,ow 183 6 11] [(0,2),(1,2),(0,3),(1,3),(2,3),(0,5),(1,5),(2,5),(3,5),(4,5),(0,6),(1,6),(2,6),(3,6),(4,6),(5,6)]∧RR zxr [oo 12 (.makeFunc (.func 98) #[] #[.tmp 5,.tmp 6,.tmp 2]),oo 4 (oG 12)]∧zf T 46 [.tmp 4] false:=by refine⟨zz T ?_,xo T (id:=1) ?_ ?_,zz T ?_,zh T (F:=f46) ?_ ?_ ?_⟩<;>kernel_rfl
@[go_sem]theorem fr110:qv T 110 false none false∧zm T 110 4:=by refine⟨⟨?_,?_,?_⟩,zl T (F:=f110) ?_ ?_⟩<;>kernel_rfl
def yfz:=nv 2 f110
def yfy:=nv 12 f110
def ki:=nv 52 f110
def kz:=nv 53 f110
def yfx:=nv 212 f110
def yfw:=nv 14 f110
theorem xba:qy T 110 9 (.seq (yfz) (.seq (.seq (yfy) (.block 0 (.rangeFunc (.tmp 7) #[8] ki kz))) (.seq (yfw) (.ret)))):=zp T (F:=f110) (by kernel_rfl) (by kernel_rfl) (by kernel_rfl)
@[go_sem↓]theorem run110:RR yfz [oo 2 (.box 76 (.tmp 0)),oo 4 (.alloc 4)]∧RR yfy [oo 5 (oL 76 2),oo 6 (oM 1),oo 7 (o2 46 5 6 76 39)]∧RR yfx [⟨none,.store 4 (.tmp 4) (.const (.bool false)),none⟩]∧RI ki (.skip)∧RI kz (.block 1 (.seq (yfx) (.ret)))∧RR yfw [⟨none,.store 4 (.tmp 4) (.const (.bool true)),none⟩]∧zf T 110 [.cell 4 4] false:=by refine⟨zz T ?_,zz T ?_,zz T ?_,zi T ?_,zi T ?_,zz T ?_,zh T (F:=f110) ?_ ?_ ?_⟩<;>kernel_rfl
def ye8:=nv 2 f119
def ye7:=nv 6 f119
def ye6:=nv 28 f119
def zol:=nv 116 f119
def ye5:=nv 232 f119
def ye4:=nv 3736 f119
def ye3:=nv 3737 f119
def ye2:=nv 935 f119
def ye1:=nv 30 f119
theorem zbp:qy T 119 22 (.seq (ye8) (.seq (ye7) (.seq (.seq (ye6) (.block 0 (.loop zol))) (.seq (ye1) (.ret))))):=zp T (F:=f119) (by kernel_rfl) (by kernel_rfl) (by kernel_rfl)
@[go_sem↓]theorem run119:RR ye8 [oo 4 on]∧RR ye7 [oo 5 on]∧RR ye6 [oo 8 (oM 0),oo 9 (oN 8 73),oo 10 (.move (.const (.int .i64 0)))]∧RR ye5 [oo 11 (oB .lss 3 10 9)]∧RR ye4 [oo 12 (oI 73 8 10),oo 13 (oL 39 12),oo 7 (oG 13)]∧RR ye3 [oo 14 (oM 5),oo 15 (oM 1),oo 16 (oM 7),oo 17 (.call ⟨.value (.tmp 15),#[.tmp 16],#[39]⟩),oo 18 (oS 183 17),oo 19 (oA 14 18 183),oo 5 (oG 19)]∧RR ye2 [oo 20 (oC .add 3 10 1),oo 10 (oM 20)]∧RI zol (.seq (ye5) (.seq (.cond (.tmp 11) (.skip) (.exit 0)) (.seq (.block 1 (.seq (ye4) (ye3))) (ye2))))∧xv T 119 zol [1,5,8,9,10]∧RR ye1 [oo 21 (oM 5),oo 4 (oG 21)]∧zf T 119 [.tmp 4] true:=by refine⟨zz T ?_,zz T ?_,zz T ?_,zz T ?_,zz T ?_,zz T ?_,zz T ?_,zi T ?_,xk T ?_,zz T ?_,zh T (F:=f119) ?_ ?_ ?_⟩<;>kernel_rfl
def yeu:=nv 2 f120
def yet:=nv 6 f120
theorem xa3:qy T 120 6 (.seq (yeu) (.seq (yet) (.ret))):=zp T (F:=f120) (by kernel_rfl) (by kernel_rfl) (by kernel_rfl)
@[go_sem↓]theorem run120:RR yeu [oo 2 on]∧RR yet [oo 3 (oM 0),oo 4 (oN 3 39),oo 5 (.makeSlice 101 (.tmp 4) (.tmp 4)),oo 2 (oG 5)]∧zf T 120 [.tmp 2] true:=by refine⟨zz T ?_,zz T ?_,zh T (F:=f120) ?_ ?_ ?_⟩<;>kernel_rfl
def yg9:=nv 2 f101
def yg8:=nv 12 f101
def zcv:=nv 52 f101
def zcr:=nv 53 f101
def yg7:=nv 52 f101
def yg6:=nv 106 f101
def yg5:=nv 14 f101
theorem xbg:qy T 101 13 (.seq (yg9) (.seq (.seq (yg8) (.block 0 (.rangeFunc (.tmp 6) #[7] zcv zcr))) (.seq (yg5) (.ret)))):=zp T (F:=f101) (by kernel_rfl) (by kernel_rfl) (by kernel_rfl)
@[go_sem↓]theorem run101:RR yg9 [oo 2 (.box 34 (.tmp 0)),oo 4 on]∧RR yg8 [oo 6 (oM 1)]∧RR yg7 [oo 5 (.alloc 31),ow 31 5 7]∧RR yg6 [oo 8 (oL 34 2),oo 9 (oL 31 5),oo 10 (oS 34 9),oo 11 (oA 8 10 34),ow 34 2 11]∧RI zcv (yg7)∧RI zcr (.block 1 (yg6))∧RR yg5 [oo 12 (oL 34 2),oo 4 (oG 12)]∧zf T 101 [.tmp 4] false:=by refine⟨zz T ?_,zz T ?_,zz T ?_,zz T ?_,zi T ?_,zi T ?_,zz T ?_,zh T (F:=f101) ?_ ?_ ?_⟩<;>kernel_rfl
def zqg:=nv 2 f98
def zfw:=nv 12 f98
def zqf:=nv 24 f98
def zqe:=nv 408 f98
def zqd:=nv 818 f98
def ziw:=nv 3276 f98
def zqc:=nv 6552 f98
def zqb:=nv 104856 f98
def zqa:=nv 209714 f98
def zp9:=nv 419430 f98
def zp8:=nv 26215 f98
def zk7:=nv 103 f98
theorem yzd:qy T 98 57 (.seq (zqg) (.block 0 (.loop zfw))):=zp T (F:=f98) (by kernel_rfl) (by kernel_rfl) (by kernel_rfl)
@[go_sem↓]theorem run98:RR zqg [oo 10 (oL 73 1),oo 11 (oN 10 73),oo 12 (.move (.const (.int .i64 0)))]∧RR zqf [oo 13 (oB .lss 3 12 11)]∧RR zqe [oo 14 (oM 12),oo 15 (oI 73 10 12),oo 16 (oL 39 15),oo 5 (oG 14),oo 6 (oG 16)]∧RR zqd [oo 17 (oM 6),oo 18 (oN 17 39),oo 19 (.move (.const (.int .i64 0)))]∧RR zqc [oo 20 (oB .lss 3 19 18)]∧RR zqb [oo 21 (oM 19),oo 22 (oI 39 17 19),oo 23 (oL 3 22),oo 7 (oG 21),oo 8 (oG 23)]∧RR zqa [oo 24 (oL 183 2),oo 25 (oM 5),oo 26 (oI 183 24 25),oo 27 (oL 101 26),oo 28 (oM 7),oo 29 (oI 101 27 28),oo 30 (oL 100 29),oo 9 (.alloc 100),ow 100 9 30]∧RR zp9 [oo 31 (oM 8),oo 32 (oF 100 9 0),oo 33 (oL 3 32),oo 34 (oF 76 3 1),oo 35 (oL 3 34),oo 36 (oB .sub 3 33 35),oo 37 (oB .lss 3 31 36),oo 38 (oM 37),of 39 (oM 8) 38,of 40 (oF 100 9 1) 38,of 41 (oL 3 40) 38,of 42 (oF 76 3 1) 38,of 43 (oL 3 42) 38,of 44 (oB .add 3 41 43) 38,of 45 (oB .gtr 3 39 44) 38,oo 46 (.pick (.tmp 38) (.const (.bool true)) (.tmp 45)),oo 47 (oM 46),ot 48 (oM 0) 47,ot 49 (oM 5) 47,ot 50 (oM 7) 47,ot 51 (.build 31 #[(0,.tmp 49),(1,.tmp 50)]) 47,ot 52 (.call ⟨.value (.tmp 48),#[.tmp 51],#[31]⟩) 47,ot 53 (.unOp .not 4 (.tmp 52)) 47,oo 54 (.pick (.tmp 47) (.tmp 53) (.const (.bool false)))]∧RR zp8 [oo 55 (oC .add 3 19 1),oo 19 (oM 55)]∧RI ziw (.seq (zqc) (.seq (.cond (.tmp 20) (.skip) (.exit 2)) (.seq (.block 3 (.seq (zqb) (.seq (zqa) (.seq (zp9) (.cond (.tmp 54) (.ret) (.skip)))))) (zp8))))∧xv T 98 ziw [0,2,3,5,10,11,12,17,18,19]∧RR zk7 [oo 56 (oC .add 3 12 1),oo 12 (oM 56)]∧RI zfw (.seq (zqf) (.seq (.cond (.tmp 13) (.skip) (.exit 0)) (.seq (.block 1 (.seq (zqe) (.seq (zqd) (.block 2 (.loop ziw))))) (zk7))))∧xv T 98 zfw [0,2,3,10,11,12]∧zf T 98 [] false:=by refine⟨zz T ?_,zz T ?_,zz T ?_,zz T ?_,zz T ?_,zz T ?_,zz T ?_,zz T ?_,zz T ?_,zi T ?_,xk T ?_,zz T ?_,zi T ?_,xk T ?_,zh T (F:=f98) ?_ ?_ ?_⟩<;>kernel_rfl
@[go_sem]theorem fr92:qv T 92 false none false∧zm T 92 3:=by refine⟨⟨?_,?_,?_⟩,zl T (F:=f92) ?_ ?_⟩<;>kernel_rfl
@[go_sem]theorem fr93:qv T 93 false none false∧zm T 93 3:=by refine⟨⟨?_,?_,?_⟩,zl T (F:=f93) ?_ ?_⟩<;>kernel_rfl
@[go_sem]theorem fr94:qv T 94 false none false∧zm T 94 3:=by refine⟨⟨?_,?_,?_⟩,zl T (F:=f94) ?_ ?_⟩<;>kernel_rfl
@[go_sem]theorem fr95:qv T 95 false none false∧zm T 95 3:=by refine⟨⟨?_,?_,?_⟩,zl T (F:=f95) ?_ ?_⟩<;>kernel_rfl
def zrs:=nv 2 f92
def zrr:=nv 6 f92
theorem yzi:qy T 92 15 (.seq (zrs) (.seq (zrr) (.ret))):=zp T (F:=f92) (by kernel_rfl) (by kernel_rfl) (by kernel_rfl)
@[go_sem↓]theorem run92:RR zrs [oo 4 (oi 0)]∧RR zrr [oo 5 (oM 0),oo 6 (oN 5 39),oo 7 (oM 1),oo 8 (oN 7 39),oo 9 (o2 94 6 8 3 3),oo 10 (oM 0),oo 11 (oM 1),oo 12 (o2 95 10 11 39 39),oo 13 (.buildSlice 39 2 #[(0,.tmp 9),(1,.tmp 12)]),oo 14 (o1 93 13 39),oo 4 (oG 14)]∧zf T 92 [.tmp 4] false:=by refine⟨zz T ?_,zz T ?_,zh T (F:=f92) ?_ ?_ ?_⟩<;>kernel_rfl
def zrq:=nv 2 f93
def zrp:=nv 6 f93
def zro:=nv 28 f93
def zoi:=nv 116 f93
def zrn:=nv 232 f93
def zrm:=nv 3736 f93
def zrl:=nv 7474 f93
def zrk:=nv 29900 f93
def zrj:=nv 935 f93
def zri:=nv 30 f93
theorem yzh:qy T 93 18 (.seq (zrq) (.seq (zrp) (.seq (.seq (zro) (.block 0 (.loop zoi))) (.seq (zri) (.ret))))):=zp T (F:=f93) (by kernel_rfl) (by kernel_rfl) (by kernel_rfl)
@[go_sem↓]theorem run93:RR zrq [oo 2 (oi 0)]∧RR zrp [oo 3 (oi 0)]∧RR zro [oo 6 (oM 0),oo 7 (oN 6 39),oo 8 (.move (.const (.int .i64 0)))]∧RR zrn [oo 9 (oB .lss 3 8 7)]∧RR zrm [oo 10 (oI 39 6 8),oo 11 (oL 3 10),oo 5 (oG 11)]∧RR zrl [oo 12 (oM 5),oo 13 (oM 3),oo 14 (oB .neq 3 12 13)]∧RR zrk [oo 15 (oM 5),oo 2 (oG 15)]∧RR zrj [oo 16 (oC .add 3 8 1),oo 8 (oM 16)]∧RI zoi (.seq (zrn) (.seq (.cond (.tmp 9) (.skip) (.exit 0)) (.seq (.block 1 (.seq (zrm) (.seq (zrl) (.cond (.tmp 14) (.seq (zrk) (.ret)) (.skip))))) (zrj))))∧xv T 93 zoi [3,6,7,8]∧RR zri [oo 17 (oM 3),oo 2 (oG 17)]∧zf T 93 [.tmp 2] false:=by refine⟨zz T ?_,zz T ?_,zz T ?_,zz T ?_,zz T ?_,zz T ?_,zz T ?_,zz T ?_,zi T ?_,xk T ?_,zz T ?_,zh T (F:=f93) ?_ ?_ ?_⟩<;>kernel_rfl
def zrh:=nv 2 f94
def zrg:=nv 6 f94
def zrb:=nv 14 f94
def zra:=nv 60 f94
def zq9:=nv 488 f94
def zq8:=nv 1956 f94
def zq7:=nv 490 f94
def zq6:=nv 124 f94
def zq5:=nv 500 f94
def zq4:=nv 252 f94
def zrf:=nv 1012 f94
def zre:=nv 508 f94
def zrd:=nv 2036 f94
def zrc:=nv 510 f94
theorem yzg:qy T 94 20 (.seq (zrh) (.seq (zrg) (.seq (zrb) (.seq (.seq (zra) (.cond (.tmp 11) (.seq (.seq (zq9) (.cond (.tmp 12) (.seq (zq8) (.ret)) (.skip))) (.seq (zq7) (.ret))) (.skip))) (.seq (.seq (zq6) (.cond (.tmp 13) (.seq (zq5) (.ret)) (.skip))) (.seq (.seq (zq4) (.cond (.tmp 16) (.seq (zrf) (.ret)) (.skip))) (.seq (.seq (zre) (.cond (.tmp 19) (.seq (zrd) (.ret)) (.skip))) (.seq (zrc) (.ret))))))))):=zp T (F:=f94) (by kernel_rfl) (by kernel_rfl) (by kernel_rfl)
@[go_sem↓]theorem run94:RR zrh [oo 4 (oi 0)]∧RR zrg [oo 7 (oM 0),oo 8 (o1 117 7 3),oo 5 (oG 8)]∧RR zrb [oo 9 (oM 1),oo 10 (o1 117 9 3),oo 6 (oG 10)]∧RR zra [oo 11 (oM 5)]∧RR zq9 [oo 12 (oM 6)]∧RR zq8 [oo 4 (oi 0)]∧RR zq7 [oo 4 (oi (-1))]∧RR zq6 [oo 13 (oM 6)]∧RR zq5 [oo 4 (oi 1)]∧RR zq4 [oo 14 (oM 0),oo 15 (oM 1),oo 16 (oB .lss 3 14 15)]∧RR zrf [oo 4 (oi (-1))]∧RR zre [oo 17 (oM 0),oo 18 (oM 1),oo 19 (oB .gtr 3 17 18)]∧RR zrd [oo 4 (oi 1)]∧RR zrc [oo 4 (oi 0)]∧zf T 94 [.tmp 4] false:=by refine⟨zz T ?_,zz T ?_,zz T ?_,zz T ?_,zz T ?_,zz T ?_,zz T ?_,zz T ?_,zz T ?_,zz T ?_,zz T ?_,zz T ?_,zz T ?_,zz T ?_,zh T (F:=f94) ?_ ?_ ?_⟩<;>kernel_rfl
def zq3:=nv 2 f95
def zq2:=nv 12 f95
def ziy:=nv 52 f95
def zq0:=nv 104 f95
def zqz:=nv 1688 f95
def zqy:=nv 6756 f95
def zqx:=nv 27028 f95
def zqw:=nv 6758 f95
def zqv:=nv 13518 f95
def zqu:=nv 27038 f95
def zqt:=nv 108156 f95
def zq1:=nv 423 f95
def zlb:=nv 28 f95
def zla:=nv 116 f95
def zk9:=nv 30 f95
theorem yzf:qy T 95 36 (.seq (zq3) (.seq (.seq (zq2) (.block 0 (.loop ziy))) (.seq (.seq (zlb) (.cond (.tmp 35) (.seq (zla) (.ret)) (.skip))) (.seq (zk9) (.ret))))):=zp T (F:=f95) (by kernel_rfl) (by kernel_rfl) (by kernel_rfl)
@[go_sem↓]theorem run95:RR zq3 [oo 4 (oi 0)]∧RR zq2 [oo 9 (oM 0),oo 10 (oN 9 39),oo 11 (.move (.const (.int .i64 0)))]∧RR zq0 [oo 12 (oB .lss 3 11 10)]∧RR zqz [oo 13 (oM 11),oo 14 (oI 39 9 11),oo 15 (oL 3 14),oo 5 (oG 13),oo 6 (oG 15)]∧RR zqy [oo 16 (oM 5),oo 17 (oM 1),oo 18 (oN 17 39),oo 19 (oB .geq 3 16 18)]∧RR zqx [oo 4 (oi 1)]∧RR zqw [oo 20 (oM 1),oo 21 (oM 5),oo 22 (oI 39 20 21),oo 23 (oL 3 22),oo 7 (oG 23)]∧RR zqv [oo 24 (oM 6),oo 25 (oM 7),oo 26 (o2 94 24 25 3 3),oo 8 (oG 26)]∧RR zqu [oo 27 (oM 8),oo 28 (oC .neq 3 27 0)]∧RR zqt [oo 29 (oM 8),oo 4 (oG 29)]∧RR zq1 [oo 30 (oC .add 3 11 1),oo 11 (oM 30)]∧RI ziy (.seq (zq0) (.seq (.cond (.tmp 12) (.skip) (.exit 0)) (.seq (.block 1 (.seq (zqz) (.seq (.seq (zqy) (.cond (.tmp 19) (.seq (zqx) (.ret)) (.skip))) (.seq (zqw) (.seq (zqv) (.seq (zqu) (.cond (.tmp 28) (.seq (zqt) (.ret)) (.skip)))))))) (zq1))))∧xv T 95 ziy [0,1,9,10,11]∧RR zlb [oo 31 (oM 0),oo 32 (oN 31 39),oo 33 (oM 1),oo 34 (oN 33 39),oo 35 (oB .lss 3 32 34)]∧RR zla [oo 4 (oi (-1))]∧RR zk9 [oo 4 (oi 0)]∧zf T 95 [.tmp 4] false:=by refine⟨zz T ?_,zz T ?_,zz T ?_,zz T ?_,zz T ?_,zz T ?_,zz T ?_,zz T ?_,zz T ?_,zz T ?_,zz T ?_,zi T ?_,xk T ?_,zz T ?_,zz T ?_,zz T ?_,zh T (F:=f95) ?_ ?_ ?_⟩<;>kernel_rfl
@[go_sem]theorem fr15:qv T 15 false none false∧yp T 15 73 41 []:=by refine⟨⟨?_,?_,?_⟩,yw T (F:=f15) ?_ ?_⟩<;>kernel_rfl
@[go_sem]theorem fr38:qv T 38 true none false∧yp T 38 73 41 []:=by refine⟨⟨?_,?_,?_⟩,yw T (F:=f38) ?_ ?_⟩<;>kernel_rfl
@[go_sem]theorem zfe:qv T 39 true none false:=⟨by kernel_rfl,by kernel_rfl,by kernel_rfl⟩
@[go_sem]theorem res39:zm T 39 73:=zl T (F:=f39) (by kernel_rfl) (by kernel_rfl)
@[go_sem]theorem yyg:qv T 40 true none false:=⟨by kernel_rfl,by kernel_rfl,by kernel_rfl⟩
@[go_sem]theorem res40:zm T 40 4:=zl T (F:=f40) (by kernel_rfl) (by kernel_rfl)
def ycl:=nv 2 f15
def yck:=nv 6 f15
def ycj:=nv 28 f15
def yci:=nv 116 f15
def ych:=nv 30 f15
theorem xau:qy T 15 17 (.seq (ycl) (.seq (yck) (.seq (.seq (ycj) (.cond (.tmp 12) (.seq (yci) (.ret)) (.skip))) (.seq (ych) (.ret))))):=zp T (F:=f15) (by kernel_rfl) (by kernel_rfl) (by kernel_rfl)
@[go_sem↓]theorem run15:RR ycl [oo 1 (.box 76 (.tmp 0)),oo 2 on,oo 3 (oi 0)]∧RR yck [oo 7 (oL 76 1),oo 8 (o1 38 7 76),oo 6 (oM 8),oo 9 (oX 6 0),oo 10 (oX 6 1),oo 4 (.alloc 73),ow 73 4 9,oo 5 (oG 10)]∧RR ycj [oo 11 (oM 5),oo 12 (oC .neq 41 11 0)]∧RR yci [oo 13 (oM 5),oo 2 on,oo 3 (oG 13)]∧RR ych [oo 14 (oL 73 4),oo 15 (.makeFunc (.func 40) #[] #[.tmp 4]),oo 16 (o2 39 14 15 73 127),oo 2 (oG 16),oo 3 (oi 0)]∧zf T 15 [.tmp 2,.tmp 3] false:=by refine⟨zz T ?_,zz T ?_,zz T ?_,zz T ?_,zz T ?_,zh T (F:=f15) ?_ ?_ ?_⟩<;>kernel_rfl
@[go_sem]theorem fr17:qv T 17 false none false∧yp T 17 81 41 []:=by refine⟨⟨?_,?_,?_⟩,yw T (F:=f17) ?_ ?_⟩<;>kernel_rfl
@[go_sem]theorem fr43:qv T 43 false none false∧yp T 43 81 41 []:=by refine⟨⟨?_,?_,?_⟩,yw T (F:=f43) ?_ ?_⟩<;>kernel_rfl
@[go_sem]theorem yja:qv T 44 false none false:=⟨by kernel_rfl,by kernel_rfl,by kernel_rfl⟩
@[go_sem]theorem ypw:zm T 44 4:=zl T (F:=f44) (by kernel_rfl) (by kernel_rfl)
def yb5:=nv 2 f17
def yb4:=nv 6 f17
theorem xas:qy T 17 8 (.seq (yb5) (.seq (yb4) (.ret))):=zp T (F:=f17) (by kernel_rfl) (by kernel_rfl) (by kernel_rfl)
@[go_sem↓]theorem run17:RR yb5 [oo 1 (.box 76 (.tmp 0)),oo 2 on,oo 3 (oi 0)]∧RR yb4 [oo 4 (oL 76 1),oo 5 (.call ⟨.value (.func 43),#[.tmp 4,.func 44],#[76,131]⟩),oo 6 (oX 5 0),oo 7 (oX 5 1),oo 2 (oG 6),oo 3 (oG 7)]∧zf T 17 [.tmp 2,.tmp 3] false:=by refine⟨zz T ?_,zz T ?_,zh T (F:=f17) ?_ ?_ ?_⟩<;>kernel_rfl
@[go_sem]theorem fr77:qv T 77 true none false∧zm T 77 73:=by refine⟨⟨?_,?_,?_⟩,zl T (F:=f77) ?_ ?_⟩<;>kernel_rfl
def zy3:=nv 2 f38
def zy2:=nv 12 f38
def zy1:=nv 26 f38
def zy0:=nv 108 f38
def zyz:=nv 14 f38
def zyy:=nv 30 f38
theorem xai:qy T 38 18 (.seq (zy3) (.seq (.seq (zy2) (.seq (zy1) (.cond (.tmp 9) (.seq (zy0) (.ret)) (.skip)))) (.seq (zyz) (.seq (zyy) (.ret))))):=zp T (F:=f38) (by kernel_rfl) (by kernel_rfl) (by kernel_rfl)
@[go_sem↓]theorem run38:RR zy3 [oo 1 (.box 76 (.tmp 0)),oo 2 on,oo 3 (oi 0)]∧RR zy2 [oo 6 (oL 76 1),oo 7 (o1 41 6 76),oo 4 (oG 7)]∧RR zy1 [oo 8 (oM 4),oo 9 (oC .neq 41 8 0)]∧RR zy0 [oo 10 (oM 4),oo 2 on,oo 3 (oG 10)]∧RR zyz [oo 11 (oL 76 1),oo 12 (o1 77 11 76),oo 5 (oG 12)]∧RR zyy [oo 13 (oM 5),oo 14 (oM 5),oo 15 (oN 14 73),oo 16 (oC .eql 3 15 0),oo 17 (.call ⟨.value (.func 29),#[.tmp 16,.const (.int .i64 18)],#[4,41]⟩),oo 2 (oG 13),oo 3 (oG 17)]∧zf T 38 [.tmp 2,.tmp 3] true:=by refine⟨zz T ?_,zz T ?_,zz T ?_,zz T ?_,zz T ?_,zz T ?_,zh T (F:=f38) ?_ ?_ ?_⟩<;>kernel_rfl
@[go_sem]theorem yi9:qv T 78 true none false:=⟨by kernel_rfl,by kernel_rfl,by kernel_rfl⟩
@[go_sem]theorem res78:zm T 78 3:=zl T (F:=f78) (by kernel_rfl) (by kernel_rfl)
def zyx:=nv 2 f39
def zyw:=nv 6 f39
def zyu:=nv 28 f39
def zyt:=nv 116 f39
def zys:=nv 60 f39
def zf2:=nv 244 f39
def zyr:=nv 976 f39
def zyp:=nv 3912 f39
def zyo:=nv 7826 f39
def zyn:=nv 31308 f39
def zyv:=nv 31309 f39
def zyq:=nv 979 f39
def zg4:=nv 62 f39
def zg3:=nv 126 f39
theorem yju:qy T 39 42 (.seq (zyx) (.seq (zyw) (.seq (.seq (zyu) (.cond (.tmp 12) (.seq (zyt) (.ret)) (.skip))) (.seq (.seq (zys) (.block 0 (.loop zf2))) (.seq (zg4) (.seq (zg3) (.ret))))))):=zp T (F:=f39) (by kernel_rfl) (by kernel_rfl) (by kernel_rfl)
@[go_sem↓]theorem run39:RR zyx [oo 4 on]∧RR zyw [oo 8 (oM 0),oo 9 (oM 1),oo 10 (o2 78 8 9 73 127),oo 5 (oG 10)]∧RR zyu [oo 11 (oM 5),oo 12 (oC .eql 3 11 (-1))]∧RR zyt [oo 13 (oM 0),oo 4 (oG 13)]∧RR zys [oo 14 (oM 5),oo 15 (oC .add 3 14 1),oo 6 (oG 15)]∧RR zyr [oo 16 (oM 6),oo 17 (oM 0),oo 18 (oN 17 73),oo 19 (oB .lss 3 16 18)]∧RR zyp [oo 22 (oM 0),oo 23 (oM 6),oo 24 (oI 73 22 23),oo 25 (oL 39 24),oo 7 (oG 25)]∧RR zyo [oo 26 (oM 1),oo 27 (oM 7),oo 28 (.call ⟨.value (.tmp 26),#[.tmp 27],#[39]⟩),oo 29 (.unOp .not 4 (.tmp 28))]∧RR zyn [oo 30 (oM 0),oo 31 (oM 5),oo 32 (oM 7),oo 33 (oI 73 30 31),ow 39 33 32]∧RR zyv [oo 34 (oM 5),oo 35 (oC .add 3 34 1),oo 5 (oG 35)]∧RR zyq [oo 20 (oM 6),oo 21 (oC .add 3 20 1),oo 6 (oG 21)]∧RI zf2 (.seq (.seq (zyr) (.cond (.tmp 19) (.skip) (.exit 0))) (.seq (.block 1 (.seq (zyp) (.seq (zyo) (.cond (.tmp 29) (.seq (zyn) (zyv)) (.skip))))) (zyq)))∧xv T 39 zf2 [0,1,5,6]∧RR zg4 [oo 36 (oM 0),oo 37 (oM 5),oo 38 (.slice 73 (.tmp 36) (some (.tmp 37)) none none),⟨none,.call ⟨.builtin .clear,#[.tmp 38],#[73]⟩,none⟩]∧RR zg3 [oo 39 (oM 0),oo 40 (oM 5),oo 41 (.slice 73 (.tmp 39) none (some (.tmp 40)) none),oo 4 (oG 41)]∧zf T 39 [.tmp 4] true:=by refine⟨zz T ?_,zz T ?_,zz T ?_,zz T ?_,zz T ?_,zz T ?_,zz T ?_,zz T ?_,zz T ?_,zz T ?_,zz T ?_,zi T ?_,xk T ?_,zz T ?_,zz T ?_,zh T (F:=f39) ?_ ?_ ?_⟩<;>kernel_rfl
def zym:=nv 2 f40
def zyl:=nv 6 f40
theorem xah:qy T 40 11 (.seq (zym) (.seq (zyl) (.ret))):=zp T (F:=f40) (by kernel_rfl) (by kernel_rfl) (by kernel_rfl)
@[go_sem↓]theorem run40:RR zym [oo 3 (.assign (.const (.bool false)))]∧RR zyl [oo 4 (oM 0),oo 5 (oN 4 39),oo 6 (oL 73 1),oo 7 (.indexAddr 73 (.tmp 6) (.const (.int .i64 0))),oo 8 (oL 39 7),oo 9 (oN 8 39),oo 10 (oB .gtr 3 5 9),oo 3 (oG 10)]∧zf T 40 [.tmp 3] true:=by refine⟨zz T ?_,zz T ?_,zh T (F:=f40) ?_ ?_ ?_⟩<;>kernel_rfl
@[go_sem]theorem fr72:qv T 72 false none false∧zm T 72 4:=by refine⟨⟨?_,?_,?_⟩,zl T (F:=f72) ?_ ?_⟩<;>kernel_rfl
@[go_sem]theorem fr89:qv T 89 false none false∧zm T 89 81:=by refine⟨⟨?_,?_,?_⟩,zl T (F:=f89) ?_ ?_⟩<;>kernel_rfl
@[go_sem]theorem fr90:qv T 90 false none false∧zm T 90 9:=by refine⟨⟨?_,?_,?_⟩,zl T (F:=f90) ?_ ?_⟩<;>kernel_rfl
def zya:=nv 2 f43
def zx9:=nv 6 f43
def zx3:=nv 28 f43
def zx2:=nv 116 f43
def zx1:=nv 30 f43
def zx0:=nv 124 f43
def zf1:=nv 500 f43
def zxz:=nv 1000 f43
def zxy:=nv 16024 f43
def zxx:=nv 32050 f43
def zxw:=nv 128204 f43
def zjc:=nv 512820 f43
def zx8:=nv 1025640 f43
def zx7:=nv 16410264 f43
def zx6:=nv 32820530 f43
def zx5:=nv 65641062 f43
def zx4:=nv 4102567 f43
def zlq:=nv 128206 f43
def zlp:=nv 256414 f43
def zlo:=nv 4007 f43
def zg2:=nv 126 f43
theorem xae:qy T 43 54 (.seq (zya) (.seq (zx9) (.seq (.seq (zx3) (.cond (.tmp 20) (.seq (zx2) (.ret)) (.skip))) (.seq (zx1) (.seq (.seq (zx0) (.block 0 (.loop zf1))) (.seq (zg2) (.ret))))))):=zp T (F:=f43) (by kernel_rfl) (by kernel_rfl) (by kernel_rfl)
@[go_sem↓]theorem run43:RR zya [oo 2 (.box 76 (.tmp 0)),oo 4 on,oo 5 (oi 0)]∧RR zx9 [oo 15 (oL 76 2),oo 16 (o1 38 15 76),oo 14 (oM 16),oo 17 (oX 14 0),oo 18 (oX 14 1),oo 6 (oG 17),oo 7 (oG 18)]∧RR zx3 [oo 19 (oM 7),oo 20 (oC .neq 41 19 0)]∧RR zx2 [oo 21 (oM 7),oo 4 on,oo 5 (oG 21)]∧RR zx1 [oo 8 on]∧RR zx0 [oo 22 (oF 76 2 2),oo 23 (oL 74 22),oo 24 (oN 23 74),oo 25 (.move (.const (.int .i64 0)))]∧RR zxz [oo 26 (oB .lss 3 25 24)]∧RR zxy [oo 27 (oM 25),oo 28 (oI 74 23 25),oo 29 (oL 103 28),oo 10 (.alloc 103),oo 9 (oG 27),ow 103 10 29]∧RR zxx [oo 11 (oi 0)]∧RR zxw [oo 30 (oM 6),oo 31 (oN 30 73),oo 32 (.move (.const (.int .i64 0)))]∧RR zx8 [oo 33 (oB .lss 3 32 31)]∧RR zx7 [oo 34 (oI 73 30 32),oo 35 (oL 39 34),oo 13 (oG 35)]∧RR zx6 [oo 36 (oM 13),oo 37 (oM 9),oo 38 (o2 72 36 37 39 3)]∧RR zx5 [oo 39 (oM 11),oo 40 (oC .add 3 39 1),oo 11 (oG 40)]∧RR zx4 [oo 41 (oC .add 3 32 1),oo 32 (oM 41)]∧RI zjc (.seq (zx8) (.seq (.cond (.tmp 33) (.skip) (.exit 2)) (.seq (.block 3 (.seq (zx7) (.seq (zx6) (.cond (.tmp 38) (zx5) (.skip))))) (zx4))))∧xv T 43 zjc [1,6,8,9,10,11,23,24,25,30,31,32]∧RR zlq [oo 42 (oM 1),oo 43 (oM 11),oo 44 (oM 6),oo 45 (oN 44 73),oo 46 (.call ⟨.value (.tmp 42),#[.tmp 43,.tmp 45],#[3,3]⟩)]∧RR zlp [oo 47 (oM 8),oo 48 (oL 103 10),oo 49 (oS 74 48),oo 50 (oA 47 49 74),oo 8 (oG 50)]∧RR zlo [oo 51 (oC .add 3 25 1),oo 25 (oM 51)]∧RI zf1 (.seq (zxz) (.seq (.cond (.tmp 26) (.skip) (.exit 0)) (.seq (.block 1 (.seq (zxy) (.seq (zxx) (.seq (.seq (zxw) (.block 2 (.loop zjc))) (.seq (zlq) (.cond (.tmp 46) (zlp) (.skip))))))) (zlo))))∧xv T 43 zf1 [1,6,8,23,24,25]∧RR zg2 [oo 52 (oM 8),oo 53 (.call ⟨.value (.func 89),#[.tmp 52,.func 90],#[74,176]⟩),oo 4 (oG 53),oo 5 (oi 0)]∧zf T 43 [.tmp 4,.tmp 5] false:=by refine⟨zz T ?_,zz T ?_,zz T ?_,zz T ?_,zz T ?_,zz T ?_,zz T ?_,zz T ?_,zz T ?_,zz T ?_,zz T ?_,zz T ?_,zz T ?_,zz T ?_,zz T ?_,zi T ?_,xk T ?_,zz T ?_,zz T ?_,zz T ?_,zi T ?_,xk T ?_,zz T ?_,zh T (F:=f43) ?_ ?_ ?_⟩<;>kernel_rfl
def zxv:=nv 2 f44
def zxu:=nv 6 f44
theorem xad:qy T 44 8 (.seq (zxv) (.seq (zxu) (.ret))):=zp T (F:=f44) (by kernel_rfl) (by kernel_rfl) (by kernel_rfl)
@[go_sem↓]theorem run44:RR zxv [oo 4 (.assign (.const (.bool false)))]∧RR zxu [oo 5 (oM 0),oo 6 (oM 1),oo 7 (oB .eql 3 5 6),oo 4 (oG 7)]∧zf T 44 [.tmp 4] false:=by refine⟨zz T ?_,zz T ?_,zh T (F:=f44) ?_ ?_ ?_⟩<;>kernel_rfl
def zr1:=nv 2 f89
def zr0:=nv 6 f89
def zrz:=nv 28 f89
def ziz:=nv 116 f89
def zry:=nv 232 f89
def zrx:=nv 3736 f89
def zrw:=nv 3737 f89
def zrv:=nv 935 f89
def zlc:=nv 30 f89
theorem yjp:qy T 89 22 (.seq (zr1) (.seq (zr0) (.seq (.seq (zrz) (.block 0 (.loop ziz))) (.seq (zlc) (.ret))))):=zp T (F:=f89) (by kernel_rfl) (by kernel_rfl) (by kernel_rfl)
@[go_sem↓]theorem run89:RR zr1 [oo 4 on]∧RR zr0 [oo 5 on]∧RR zrz [oo 8 (oM 0),oo 9 (oN 8 74),oo 10 (.move (.const (.int .i64 0)))]∧RR zry [oo 11 (oB .lss 3 10 9)]∧RR zrx [oo 12 (oI 74 8 10),oo 13 (oL 103 12),oo 7 (.alloc 103),ow 103 7 13]∧RR zrw [oo 14 (oM 5),oo 15 (oM 1),oo 16 (oL 103 7),oo 17 (.call ⟨.value (.tmp 15),#[.tmp 16],#[103]⟩),oo 18 (oS 81 17),oo 19 (oA 14 18 81),oo 5 (oG 19)]∧RR zrv [oo 20 (oC .add 3 10 1),oo 10 (oM 20)]∧RI ziz (.seq (zry) (.seq (.cond (.tmp 11) (.skip) (.exit 0)) (.seq (.block 1 (.seq (zrx) (zrw))) (zrv))))∧xv T 89 ziz [1,5,8,9,10]∧RR zlc [oo 21 (oM 5),oo 4 (oG 21)]∧zf T 89 [.tmp 4] false:=by refine⟨zz T ?_,zz T ?_,zz T ?_,zz T ?_,zz T ?_,zz T ?_,zz T ?_,zi T ?_,xk T ?_,zz T ?_,zh T (F:=f89) ?_ ?_ ?_⟩<;>kernel_rfl
@[go_sem]theorem fr45:qv T 45 false none false∧zm T 45 133:=by refine⟨⟨?_,?_,?_⟩,zl T (F:=f45) ?_ ?_⟩<;>kernel_rfl
def zt2:=nv 2 f77
def zt1:=nv 6 f77
def zt0:=nv 28 f77
def zgd:=nv 116 f77
def zfs:=nv 117 f77
def ztz:=nv 116 f77
def zty:=nv 468 f77
def ztx:=nv 938 f77
def r77_6:=nv 30 f77
theorem yzu:qy T 77 18 (.seq (zt2) (.seq (zt1) (.seq (.seq (zt0) (.block 0 (.rangeFunc (.tmp 8) #[9] zgd zfs))) (.seq (r77_6) (.ret))))):=zp T (F:=f77) (by kernel_rfl) (by kernel_rfl) (by kernel_rfl)
@[go_sem↓]theorem run77:RR zt2 [oo 1 (.box 76 (.tmp 0)),oo 2 on]∧RR zt1 [oo 3 (.alloc 73)]∧RR zt0 [oo 5 (oF 76 1 2),oo 6 (oL 74 5),oo 7 (oN 6 74),oo 8 (o1 45 7 3)]∧RR ztz [oo 4 (oG 9)]∧RR zty [oo 10 (oL 76 1),oo 11 (oM 4),oo 12 (o2 110 10 11 76 39)]∧RR ztx [oo 13 (oL 73 3),oo 14 (oM 4),oo 15 (oS 73 14),oo 16 (oA 13 15 73),ow 73 3 16]∧RI zgd (ztz)∧RI zfs (.block 1 (.seq (zty) (.cond (.tmp 12) (ztx) (.skip))))∧RR r77_6 [oo 17 (oL 73 3),oo 2 (oG 17)]∧zf T 77 [.tmp 2] true:=by refine⟨zz T ?_,zz T ?_,zz T ?_,zz T ?_,zz T ?_,zz T ?_,zi T ?_,zi T ?_,zz T ?_,zh T (F:=f77) ?_ ?_ ?_⟩<;>kernel_rfl
def ztw:=nv 2 f78
def ztv:=nv 12 f78
def zfy:=nv 52 f78
def ztu:=nv 104 f78
def ztt:=nv 1688 f78
def zts:=nv 3378 f78
def ztr:=nv 13516 f78
def ztq:=nv 423 f78
def zg0:=nv 14 f78
theorem yjq:qy T 78 19 (.seq (ztw) (.seq (.seq (ztv) (.block 0 (.loop zfy))) (.seq (zg0) (.ret)))):=zp T (F:=f78) (by kernel_rfl) (by kernel_rfl) (by kernel_rfl)
@[go_sem↓]theorem run78:RR ztw [oo 4 (oi 0)]∧RR ztv [oo 6 (oM 0),oo 7 (oN 6 73),oo 8 (.move (.const (.int .i64 0)))]∧RR ztu [oo 9 (oB .lss 3 8 7)]∧RR ztt [oo 10 (oM 8),oo 5 (oG 10)]∧RR zts [oo 11 (oM 1),oo 12 (oM 0),oo 13 (oM 5),oo 14 (oI 73 12 13),oo 15 (oL 39 14),oo 16 (.call ⟨.value (.tmp 11),#[.tmp 15],#[39]⟩)]∧RR ztr [oo 17 (oM 5),oo 4 (oG 17)]∧RR ztq [oo 18 (oC .add 3 8 1),oo 8 (oM 18)]∧RI zfy (.seq (ztu) (.seq (.cond (.tmp 9) (.skip) (.exit 0)) (.seq (.block 1 (.seq (ztt) (.seq (zts) (.cond (.tmp 16) (.seq (ztr) (.ret)) (.skip))))) (ztq))))∧xv T 78 zfy [0,1,7,8]∧RR zg0 [oo 4 (oi (-1))]∧zf T 78 [.tmp 4] true:=by refine⟨zz T ?_,zz T ?_,zz T ?_,zz T ?_,zz T ?_,zz T ?_,zz T ?_,zi T ?_,xk T ?_,zz T ?_,zh T (F:=f78) ?_ ?_ ?_⟩<;>kernel_rfl
@[go_sem]theorem fr108:qv T 108 false none false∧zm T 108 3:=by refine⟨⟨?_,?_,?_⟩,zl T (F:=f108) ?_ ?_⟩<;>kernel_rfl
def zus:=nv 2 f72
def zur:=nv 6 f72
theorem yjr:qy T 72 9 (.seq (zus) (.seq (zur) (.ret))):=zp T (F:=f72) (by kernel_rfl) (by kernel_rfl) (by kernel_rfl)
@[go_sem↓]theorem run72:RR zus [oo 4 (.assign (.const (.bool false)))]∧RR zur [oo 5 (oM 0),oo 6 (oM 1),oo 7 (o2 108 5 6 39 3),oo 8 (oC .geq 3 7 0),oo 4 (oG 8)]∧zf T 72 [.tmp 4] false:=by refine⟨zz T ?_,zz T ?_,zh T (F:=f72) ?_ ?_ ?_⟩<;>kernel_rfl
def zru:=nv 2 f90
def zrt:=nv 6 f90
theorem yzj:qy T 90 5 (.seq (zru) (.seq (zrt) (.ret))):=zp T (F:=f90) (by kernel_rfl) (by kernel_rfl) (by kernel_rfl)
@[go_sem↓]theorem run90:RR zru [oo 1 (.box 103 (.tmp 0)),oo 2 (.assign (.const (.string ⟨#[]⟩)))]∧RR zrt [oo 3 (oF 103 1 0),oo 4 (oL 9 3),oo 2 (oG 4)]∧zf T 90 [.tmp 2] false:=by refine⟨zz T ?_,zz T ?_,zh T (F:=f90) ?_ ?_ ?_⟩<;>kernel_rfl
@[go_sem]theorem fr13:qv T 13 false none false∧zm T 13 4:=by refine⟨⟨?_,?_,?_⟩,zl T (F:=f13) ?_ ?_⟩<;>kernel_rfl
def ydm:=nv 2 f13
def ydl:=nv 12 f13
def zjk:=nv 52 f13
def ydk:=nv 208 f13
def ydi:=nv 840 f13
def ydh:=nv 3364 f13
def ydj:=nv 211 f13
def zl1:=nv 14 f13
theorem xaz:qy T 13 18 (.seq (ydm) (.seq (.seq (ydl) (.block 0 (.loop zjk))) (.seq (zl1) (.ret)))):=zp T (F:=f13) (by kernel_rfl) (by kernel_rfl) (by kernel_rfl)
@[go_sem↓]theorem run13:RR ydm [oo 4 (.assign (.const (.bool false)))]∧RR ydl [oo 5 (oi 0)]∧RR ydk [oo 6 (oM 5),oo 7 (oM 0),oo 8 (oN 7 39),oo 9 (oB .lss 3 6 8)]∧RR ydi [oo 12 (oM 0),oo 13 (oM 5),oo 14 (oI 39 12 13),oo 15 (oL 3 14),oo 16 (oM 1),oo 17 (oB .eql 3 15 16)]∧RR ydh [oo 4 (.assign (.const (.bool true)))]∧RR ydj [oo 10 (oM 5),oo 11 (oC .add 3 10 1),oo 5 (oG 11)]∧RI zjk (.seq (.seq (ydk) (.cond (.tmp 9) (.skip) (.exit 0))) (.seq (.block 1 (.seq (ydi) (.cond (.tmp 17) (.seq (ydh) (.ret)) (.skip)))) (ydj)))∧xv T 13 zjk [0,1,5]∧RR zl1 [oo 4 (.assign (.const (.bool false)))]∧zf T 13 [.tmp 4] false:=by refine⟨zz T ?_,zz T ?_,zz T ?_,zz T ?_,zz T ?_,zz T ?_,zi T ?_,xk T ?_,zz T ?_,zh T (F:=f13) ?_ ?_ ?_⟩<;>kernel_rfl
@[go_sem]theorem zdw:qv T 118 false none false:=⟨by kernel_rfl,by kernel_rfl,by kernel_rfl⟩
@[go_sem]theorem zk4:zcw T 118:=zem T (F:=f118) (by kernel_rfl) (by kernel_rfl)
def yge:=nv 2 f108
def ygd:=nv 12 f108
def zf6:=nv 52 f108
def ygc:=nv 104 f108
def ygb:=nv 1688 f108
def yga:=nv 3378 f108
def yf9:=nv 13516 f108
def yf8:=nv 423 f108
def zhb:=nv 14 f108
theorem yj2:qy T 108 19 (.seq (yge) (.seq (.seq (ygd) (.block 0 (.loop zf6))) (.seq (zhb) (.ret)))):=zp T (F:=f108) (by kernel_rfl) (by kernel_rfl) (by kernel_rfl)
@[go_sem↓]theorem run108:RR yge [oo 4 (oi 0)]∧RR ygd [oo 6 (oM 0),oo 7 (oN 6 39),oo 8 (.move (.const (.int .i64 0)))]∧RR ygc [oo 9 (oB .lss 3 8 7)]∧RR ygb [oo 10 (oM 8),oo 5 (oG 10)]∧RR yga [oo 11 (oM 1),oo 12 (oM 0),oo 13 (oM 5),oo 14 (oI 39 12 13),oo 15 (oL 3 14),oo 16 (oB .eql 3 11 15)]∧RR yf9 [oo 17 (oM 5),oo 4 (oG 17)]∧RR yf8 [oo 18 (oC .add 3 8 1),oo 8 (oM 18)]∧RI zf6 (.seq (ygc) (.seq (.cond (.tmp 9) (.skip) (.exit 0)) (.seq (.block 1 (.seq (ygb) (.seq (yga) (.cond (.tmp 16) (.seq (yf9) (.ret)) (.skip))))) (yf8))))∧xv T 108 zf6 [0,1,7,8]∧RR zhb [oo 4 (oi (-1))]∧zf T 108 [.tmp 4] false:=by refine⟨zz T ?_,zz T ?_,zz T ?_,zz T ?_,zz T ?_,zz T ?_,zz T ?_,zi T ?_,xk T ?_,zz T ?_,zh T (F:=f108) ?_ ?_ ?_⟩<;>kernel_rfl
def yfd:=nv 2 f118
def zjm:=nv 12 f118
def yfc:=nv 24 f118
def yfb:=nv 408 f118
def yfa:=nv 818 f118
def ye9:=nv 103 f118
theorem xa4:qy T 118 16 (.seq (yfd) (.block 0 (.loop zjm))):=zp T (F:=f118) (by kernel_rfl) (by kernel_rfl) (by kernel_rfl)
@[go_sem↓]theorem run118:RR yfd [oo 5 (oL 73 1),oo 6 (oN 5 73),oo 7 (.move (.const (.int .i64 0)))]∧RR yfc [oo 8 (oB .lss 3 7 6)]∧RR yfb [oo 9 (oI 73 5 7),oo 10 (oL 39 9),oo 4 (oG 10)]∧RR yfa [oo 11 (oM 0),oo 12 (oM 4),oo 13 (.call ⟨.value (.tmp 11),#[.tmp 12],#[39]⟩),oo 14 (.unOp .not 4 (.tmp 13))]∧RR ye9 [oo 15 (oC .add 3 7 1),oo 7 (oM 15)]∧RI zjm (.seq (yfc) (.seq (.cond (.tmp 8) (.skip) (.exit 0)) (.seq (.block 1 (.seq (yfb) (.seq (yfa) (.cond (.tmp 14) (.ret) (.skip))))) (ye9))))∧xv T 118 zjm [0,5,6,7]∧zf T 118 [] false:=by refine⟨zz T ?_,zz T ?_,zz T ?_,zz T ?_,zz T ?_,zi T ?_,xk T ?_,zh T (F:=f118) ?_ ?_ ?_⟩<;>kernel_rfl
@[go_sem]theorem fr18:qv T 18 false none false∧yp T 18 34 41 []:=by refine⟨⟨?_,?_,?_⟩,yw T (F:=f18) ?_ ?_⟩<;>kernel_rfl
def yb3:=nv 2 f18
def zgs:=nv 6 f18
def yb2:=nv 12 f18
def yb0:=nv 52 f18
def ybz:=nv 212 f18
def yby:=nv 54 f18
def ybx:=nv 444 f18
def zcu:=nv 1780 f18
def zcq:=nv 1781 f18
def ybw:=nv 1780 f18
def ybv:=nv 14248 f18
def ybu:=nv 14250 f18
def zjw:=nv 57004 f18
def zis:=nv 57005 f18
def ybt:=nv 57004 f18
def yb1:=nv 228020 f18
def r18_11:=nv 446 f18
theorem xao:qy T 18 38 (.seq (yb3) (.scope zgs)):=zp T (F:=f18) (by kernel_rfl) (by kernel_rfl) (by kernel_rfl)
@[go_sem↓]theorem run18:RR yb3 [oo 1 (.box 76 (.tmp 0)),oo 2 on,oo 3 (oi 0)]∧RR yb2 [oo 10 (oL 76 1),oo 11 (o1 38 10 76),oo 9 (oM 11),oo 12 (oX 9 0),oo 13 (oX 9 1),oo 4 (.alloc 73),ow 73 4 12,oo 5 (oG 13)]∧RR yb0 [oo 14 (oM 5),oo 15 (oC .neq 41 14 0)]∧RR ybz [oo 16 (oM 5),oo 2 on,oo 3 (oG 16)]∧RR yby [oo 6 (.alloc 34)]∧RR ybx [oo 17 (oF 76 1 2),oo 18 (oL 74 17),oo 19 (oN 18 74),oo 20 (o1 45 19 3)]∧RR ybw [oo 7 (oG 21)]∧RR ybv [oo 22 (oM 7),oo 23 (oN 22 39),oo 24 (oL 73 4),oo 25 (.indexAddr 73 (.tmp 24) (.const (.int .i64 0))),oo 26 (oL 39 25),oo 27 (oN 26 39),oo 28 (oB .geq 3 23 27)]∧RR ybu [oo 29 (oL 76 1),oo 30 (oM 7),oo 31 (o2 46 29 30 76 39)]∧RR ybt [oo 8 (.alloc 31),ow 31 8 32]∧RR yb1 [oo 33 (oL 34 6),oo 34 (oL 31 8),oo 35 (oS 34 34),oo 36 (oA 33 35 34),ow 34 6 36]∧RI zjw (ybt)∧RI zis (.block 3 (.seq (yb1) (.exit 1)))∧RI zcu (ybw)∧RI zcq (.block 1 (.seq (.seq (ybv) (.cond (.tmp 28) (.exit 0) (.skip))) (.seq (ybu) (.block 2 (.rangeFunc (.tmp 31) #[32] zjw zis)))))∧RR r18_11 [oo 37 (oL 34 6),oo 2 (oG 37),oo 3 (oi 0)]∧RI zgs (.seq (yb2) (.seq (.seq (yb0) (.cond (.tmp 15) (.seq (ybz) (.ret)) (.skip))) (.seq (yby) (.seq (.label 0) (.seq (.seq (ybx) (.block 0 (.rangeFunc (.tmp 20) #[21] zcu zcq))) (.seq (r18_11) (.ret)))))))∧zf T 18 [.tmp 2,.tmp 3] false:=by refine⟨zz T ?_,zz T ?_,zz T ?_,zz T ?_,zz T ?_,zz T ?_,zz T ?_,zz T ?_,zz T ?_,zz T ?_,zz T ?_,zi T ?_,zi T ?_,zi T ?_,zi T ?_,zz T ?_,zi T ?_,zh T (F:=f18) ?_ ?_ ?_⟩<;>kernel_rfl
@[go_sem]theorem fr20:qv T 20 false none false∧zm T 20 41:=by refine⟨⟨?_,?_,?_⟩,zl T (F:=f20) ?_ ?_⟩<;>kernel_rfl
@[go_sem]theorem fr34:qv T 34 false none false∧zm T 34 114:=by refine⟨⟨?_,?_,?_⟩,zl T (F:=f34) ?_ ?_⟩<;>kernel_rfl
@[go_sem]theorem fr48:qv T 48 true none false∧zm T 48 73:=by refine⟨⟨?_,?_,?_⟩,zl T (F:=f48) ?_ ?_⟩<;>kernel_rfl
@[go_sem]theorem fr49:qv T 49 false none false∧zm T 49 4:=by refine⟨⟨?_,?_,?_⟩,zl T (F:=f49) ?_ ?_⟩<;>kernel_rfl
@[go_sem]theorem fr50:qv T 50 false none false∧zm T 50 41:=by refine⟨⟨?_,?_,?_⟩,zl T (F:=f50) ?_ ?_⟩<;>kernel_rfl
@[go_sem]theorem fr51:qv T 51 false none false∧zm T 51 4:=by refine⟨⟨?_,?_,?_⟩,zl T (F:=f51) ?_ ?_⟩<;>kernel_rfl
@[go_sem]theorem fr52:qv T 52 false none false∧zm T 52 4:=by refine⟨⟨?_,?_,?_⟩,zl T (F:=f52) ?_ ?_⟩<;>kernel_rfl
def ybk:=nv 2 f20
def ybj:=nv 12 f20
def ya9:=nv 26 f20
def ya8:=nv 108 f20
def ya7:=nv 28 f20
def ya6:=nv 58 f20
def ya5:=nv 236 f20
def ya4:=nv 30 f20
def ya3:=nv 62 f20
def ya2:=nv 252 f20
def ybi:=nv 506 f20
def ybh:=nv 2028 f20
def ybg:=nv 508 f20
def zd6:=nv 2036 f20
def ybf:=nv 4072 f20
def ybe:=nv 65176 f20
def ybd:=nv 130354 f20
def ybc:=nv 260710 f20
def ybb:=nv 1042844 f20
def yba:=nv 16295 f20
def zeo:=nv 510 f20
theorem yjz:qy T 20 67 (.seq (ybk) (.seq (.seq (ybj) (.seq (ya9) (.cond (.tmp 18) (.seq (ya8) (.ret)) (.skip)))) (.seq (.seq (ya7) (.seq (ya6) (.cond (.tmp 26) (.seq (ya5) (.ret)) (.skip)))) (.seq (ya4) (.seq (ya3) (.seq (.seq (ya2) (.seq (ybi) (.cond (.tmp 49) (.seq (ybh) (.ret)) (.skip)))) (.seq (.seq (ybg) (.block 0 (.loop zd6))) (.seq (zeo) (.ret))))))))):=zp T (F:=f20) (by kernel_rfl) (by kernel_rfl) (by kernel_rfl)
@[go_sem↓]theorem run20:RR ybk [oo 3 (.box 76 (.tmp 0)),oo 4 (.box 3 (.tmp 1)),oo 5 (.box 34 (.tmp 2)),oo 6 (oi 0)]∧RR ybj [oo 15 (oL 76 3),oo 16 (o1 41 15 76),oo 7 (oG 16)]∧RR ya9 [oo 17 (oM 7),oo 18 (oC .neq 41 17 0)]∧RR ya8 [oo 19 (oM 7),oo 6 (oG 19)]∧RR ya7 [oo 20 (oL 3 4),oo 21 (oF 76 3 2),oo 22 (oL 74 21),oo 23 (oN 22 74),oo 24 (.call ⟨.value (.func 47),#[.tmp 20,.const (.int .i64 0),.tmp 23],#[3,3,3]⟩),oo 8 (oG 24)]∧RR ya6 [oo 25 (oM 8),oo 26 (oC .neq 41 25 0)]∧RR ya5 [oo 27 (oM 8),oo 6 (oG 27)]∧RR ya4 [oo 28 (oF 76 3 2),oo 29 (oL 74 28),oo 30 (oN 29 74),oo 31 (o1 45 30 3),oo 32 (o1 48 31 133),oo 33 (.makeFunc (.func 49) #[] #[.tmp 4]),oo 34 (o2 39 32 33 73 127),oo 9 (oG 34)]∧RR ya3 [oo 35 (.makeFunc (.func 50) #[] #[.tmp 3]),oo 10 (oG 35)]∧RD ya2 20 [oo 36 (oM 9),oo 37 (oN 36 73),oo 38 (oL 34 5),oo 39 (oN 38 34),oo 40 (oB .neq 3 37 39),oo 41 (.call ⟨.value (.func 29),#[.tmp 40,.const (.int .i64 2)],#[4,41]⟩),oo 42 (oL 34 5),oo 43 (oM 10),oo 44 (o2 34 42 43 34 106),oo 45 (o1 24 44 114),oo 46 (.buildSlice 114 2 #[(0,.tmp 41),(1,.tmp 45)]),oo 47 (o1 24 46 114),oo 11 (oG 47)] [(0,2),(1,2),(0,3),(1,3),(0,6),(1,6),(2,6),(3,6),(4,6),(5,6),(0,7),(1,7),(2,7),(3,7),(4,7),(5,7),(6,7)]∧RR ybi [oo 48 (oM 11),oo 49 (oC .neq 41 48 0)]∧RR ybh [oo 50 (oM 11),oo 6 (oG 50)]∧RR ybg [oo 51 (oM 9),oo 52 (oN 51 73),oo 53 (.move (.const (.int .i64 0)))]∧RR ybf [oo 54 (oB .lss 3 53 52)]∧RR ybe [oo 55 (oM 53),oo 56 (oI 73 51 53),oo 57 (oL 39 56),oo 12 (.alloc 3),ow 3 12 55,oo 13 (oG 57)]∧RR ybd [oo 58 (.makeFunc (.func 51) #[] #[.tmp 5,.tmp 12]),oo 14 (oG 58)]∧RR ybc [oo 59 (oL 76 3),oo 60 (oM 13),oo 61 (o2 46 59 60 76 39),oo 62 (o1 53 61 136),oo 63 (oM 14),oo 64 (o2 52 62 63 34 140),oo 65 (.unOp .not 4 (.tmp 64))]∧RR ybb [oo 6 (oi 19)]∧RR yba [oo 66 (oC .add 3 53 1),oo 53 (oM 66)]∧RI zd6 (.seq (ybf) (.seq (.cond (.tmp 54) (.skip) (.exit 0)) (.seq (.block 1 (.seq (ybe) (.seq (ybd) (.seq (ybc) (.cond (.tmp 65) (.seq (ybb) (.ret)) (.skip)))))) (yba))))∧xv T 20 zd6 [3,5,51,52,53]∧RR zeo [oo 6 (oi 0)]∧zf T 20 [.tmp 6] false:=by refine⟨zz T ?_,zz T ?_,zz T ?_,zz T ?_,zz T ?_,zz T ?_,zz T ?_,zz T ?_,zz T ?_,xo T (id:=9) ?_ ?_,zz T ?_,zz T ?_,zz T ?_,zz T ?_,zz T ?_,zz T ?_,zz T ?_,zz T ?_,zz T ?_,zi T ?_,xk T ?_,zz T ?_,zh T (F:=f20) ?_ ?_ ?_⟩<;>kernel_rfl
@[go_sem]theorem fr99:qv T 99 true none false∧zm T 99 73:=by refine⟨⟨?_,?_,?_⟩,zl T (F:=f99) ?_ ?_⟩<;>kernel_rfl
def zxo:=nv 2 f48
def zxn:=nv 6 f48
theorem xaa:qy T 48 5 (.seq (zxo) (.seq (zxn) (.ret))):=zp T (F:=f48) (by kernel_rfl) (by kernel_rfl) (by kernel_rfl)
@[go_sem↓]theorem run48:RR zxo [oo 2 on]∧RR zxn [oo 3 (oM 0),oo 4 (.call ⟨.value (.func 99),#[.const (.slice none 0 0),.tmp 3],#[73,133]⟩),oo 2 (oG 4)]∧zf T 48 [.tmp 2] true:=by refine⟨zz T ?_,zz T ?_,zh T (F:=f48) ?_ ?_ ?_⟩<;>kernel_rfl
def zxm:=nv 2 f49
def zxl:=nv 6 f49
theorem yz9:qy T 49 8 (.seq (zxm) (.seq (zxl) (.ret))):=zp T (F:=f49) (by kernel_rfl) (by kernel_rfl) (by kernel_rfl)
@[go_sem↓]theorem run49:RR zxm [oo 3 (.assign (.const (.bool false)))]∧RR zxl [oo 4 (oM 0),oo 5 (oN 4 39),oo 6 (oL 3 1),oo 7 (oB .geq 3 5 6),oo 3 (oG 7)]∧zf T 49 [.tmp 3] false:=by refine⟨zz T ?_,zz T ?_,zh T (F:=f49) ?_ ?_ ?_⟩<;>kernel_rfl
def zwb:=nv 2 f50
def zwa:=nv 6 f50
theorem yz8:qy T 50 31 (.seq (zwb) (.seq (zwa) (.ret))):=zp T (F:=f50) (by kernel_rfl) (by kernel_rfl) (by kernel_rfl)
@[go_sem↓]theorem run50:RR zwb [oo 2 (.box 31 (.tmp 0)),oo 3 (oi 0)]∧RD zwa 50 [oo 4 (oF 31 2 0),oo 5 (oL 3 4),oo 6 (oC .lss 3 5 0),oo 7 (oM 6),of 8 (oF 31 2 0) 7,of 9 (oL 3 8) 7,of 10 (oF 76 1 0) 7,of 11 (oL 73 10) 7,of 12 (oN 11 73) 7,of 13 (oB .geq 3 9 12) 7,oo 14 (.pick (.tmp 7) (.const (.bool true)) (.tmp 13)),oo 15 (oM 14),of 16 (oF 31 2 1) 15,of 17 (oL 3 16) 15,of 18 (oC .lss 3 17 0) 15,oo 19 (.pick (.tmp 15) (.const (.bool true)) (.tmp 18)),oo 20 (oM 19),of 21 (oF 31 2 1) 20,of 22 (oL 3 21) 20,of 23 (oF 76 1 0) 20,of 24 (oL 73 23) 20,of 25 (.indexAddr 73 (.tmp 24) (.const (.int .i64 0))) 20,of 26 (oL 39 25) 20,of 27 (oN 26 39) 20,of 28 (oB .geq 3 22 27) 20,oo 29 (.pick (.tmp 20) (.const (.bool true)) (.tmp 28)),oo 30 (.call ⟨.value (.func 29),#[.tmp 29,.const (.int .i64 10)],#[4,41]⟩),oo 3 (oG 30)] [(4,6),(5,6),(4,7),(5,7),(4,8),(5,8),(17,19),(18,19),(17,20),(18,20),(17,21),(18,21),(17,22),(18,22),(17,23),(18,23)]∧zf T 50 [.tmp 3] false:=by refine⟨zz T ?_,xo T (id:=1) ?_ ?_,zh T (F:=f50) ?_ ?_ ?_⟩<;>kernel_rfl
def zz1:=nv 2 f34
def zz0:=nv 6 f34
def zzz:=nv 28 f34
def zjf:=nv 116 f34
def zzy:=nv 232 f34
def zzx:=nv 3736 f34
def zzw:=nv 3737 f34
def zzv:=nv 935 f34
def zlt:=nv 30 f34
theorem yjy:qy T 34 22 (.seq (zz1) (.seq (zz0) (.seq (.seq (zzz) (.block 0 (.loop zjf))) (.seq (zlt) (.ret))))):=zp T (F:=f34) (by kernel_rfl) (by kernel_rfl) (by kernel_rfl)
@[go_sem↓]theorem run34:RR zz1 [oo 4 on]∧RR zz0 [oo 5 on]∧RR zzz [oo 8 (oM 0),oo 9 (oN 8 34),oo 10 (.move (.const (.int .i64 0)))]∧RR zzy [oo 11 (oB .lss 3 10 9)]∧RR zzx [oo 12 (oI 34 8 10),oo 13 (oL 31 12),oo 7 (.alloc 31),ow 31 7 13]∧RR zzw [oo 14 (oM 5),oo 15 (oM 1),oo 16 (oL 31 7),oo 17 (.call ⟨.value (.tmp 15),#[.tmp 16],#[31]⟩),oo 18 (oS 114 17),oo 19 (oA 14 18 114),oo 5 (oG 19)]∧RR zzv [oo 20 (oC .add 3 10 1),oo 10 (oM 20)]∧RI zjf (.seq (zzy) (.seq (.cond (.tmp 11) (.skip) (.exit 0)) (.seq (.block 1 (.seq (zzx) (zzw))) (zzv))))∧xv T 34 zjf [1,5,8,9,10]∧RR zlt [oo 21 (oM 5),oo 4 (oG 21)]∧zf T 34 [.tmp 4] false:=by refine⟨zz T ?_,zz T ?_,zz T ?_,zz T ?_,zz T ?_,zz T ?_,zz T ?_,zi T ?_,xk T ?_,zz T ?_,zh T (F:=f34) ?_ ?_ ?_⟩<;>kernel_rfl
def zv9:=nv 2 f51
def zv8:=nv 6 f51
theorem yz7:qy T 51 11 (.seq (zv9) (.seq (zv8) (.ret))):=zp T (F:=f51) (by kernel_rfl) (by kernel_rfl) (by kernel_rfl)
@[go_sem↓]theorem run51:RR zv9 [oo 3 (.box 31 (.tmp 0)),oo 4 (.assign (.const (.bool false)))]∧RD zv8 51 [oo 5 (oL 31 3),oo 6 (oL 34 1),oo 7 (oL 3 2),oo 8 (oI 34 6 7),oo 9 (oL 31 8),oo 10 (oB .eql 31 5 9),oo 4 (oG 10)] [(0,1),(0,2),(1,2),(0,3),(0,4)]∧zf T 51 [.tmp 4] false:=by refine⟨zz T ?_,xo T (id:=1) ?_ ?_,zh T (F:=f51) ?_ ?_ ?_⟩<;>kernel_rfl
@[go_sem]theorem fr100:qv T 100 false none false∧zm T 100 3:=by refine⟨⟨?_,?_,?_⟩,zl T (F:=f100) ?_ ?_⟩<;>kernel_rfl
def zv7:=nv 2 f52
def zv6:=nv 6 f52
theorem yz6:qy T 52 9 (.seq (zv7) (.seq (zv6) (.ret))):=zp T (F:=f52) (by kernel_rfl) (by kernel_rfl) (by kernel_rfl)
@[go_sem↓]theorem run52:RR zv7 [oo 4 (.assign (.const (.bool false)))]∧RR zv6 [oo 5 (oM 0),oo 6 (oM 1),oo 7 (o2 100 5 6 34 140),oo 8 (oC .geq 3 7 0),oo 4 (oG 8)]∧zf T 52 [.tmp 4] false:=by refine⟨zz T ?_,zz T ?_,zh T (F:=f52) ?_ ?_ ?_⟩<;>kernel_rfl
def zp7:=nv 2 f99
def zp6:=nv 12 f99
def zgc:=nv 52 f99
def zfr:=nv 53 f99
def zp5:=nv 52 f99
def zp4:=nv 106 f99
def zp3:=nv 14 f99
theorem yzc:qy T 99 13 (.seq (zp7) (.seq (.seq (zp6) (.block 0 (.rangeFunc (.tmp 6) #[7] zgc zfr))) (.seq (zp3) (.ret)))):=zp T (F:=f99) (by kernel_rfl) (by kernel_rfl) (by kernel_rfl)
@[go_sem↓]theorem run99:RR zp7 [oo 2 (.box 73 (.tmp 0)),oo 4 on]∧RR zp6 [oo 6 (oM 1)]∧RR zp5 [oo 5 (oG 7)]∧RR zp4 [oo 8 (oL 73 2),oo 9 (oM 5),oo 10 (oS 73 9),oo 11 (oA 8 10 73),ow 73 2 11]∧RI zgc (zp5)∧RI zfr (.block 1 (zp4))∧RR zp3 [oo 12 (oL 73 2),oo 4 (oG 12)]∧zf T 99 [.tmp 4] true:=by refine⟨zz T ?_,zz T ?_,zz T ?_,zz T ?_,zi T ?_,zi T ?_,zz T ?_,zh T (F:=f99) ?_ ?_ ?_⟩<;>kernel_rfl
def yhg:=nv 2 f100
def yhf:=nv 12 f100
def zjq:=nv 52 f100
def yhe:=nv 104 f100
def yhd:=nv 1688 f100
def yhc:=nv 3378 f100
def yhb:=nv 13516 f100
def yha:=nv 423 f100
def zl6:=nv 14 f100
theorem xbh:qy T 100 19 (.seq (yhg) (.seq (.seq (yhf) (.block 0 (.loop zjq))) (.seq (zl6) (.ret)))):=zp T (F:=f100) (by kernel_rfl) (by kernel_rfl) (by kernel_rfl)
@[go_sem↓]theorem run100:RR yhg [oo 4 (oi 0)]∧RR yhf [oo 6 (oM 0),oo 7 (oN 6 34),oo 8 (.move (.const (.int .i64 0)))]∧RR yhe [oo 9 (oB .lss 3 8 7)]∧RR yhd [oo 10 (oM 8),oo 5 (oG 10)]∧RR yhc [oo 11 (oM 1),oo 12 (oM 0),oo 13 (oM 5),oo 14 (oI 34 12 13),oo 15 (oL 31 14),oo 16 (.call ⟨.value (.tmp 11),#[.tmp 15],#[31]⟩)]∧RR yhb [oo 17 (oM 5),oo 4 (oG 17)]∧RR yha [oo 18 (oC .add 3 8 1),oo 8 (oM 18)]∧RI zjq (.seq (yhe) (.seq (.cond (.tmp 9) (.skip) (.exit 0)) (.seq (.block 1 (.seq (yhd) (.seq (yhc) (.cond (.tmp 16) (.seq (yhb) (.ret)) (.skip))))) (yha))))∧xv T 100 zjq [0,1,7,8]∧RR zl6 [oo 4 (oi (-1))]∧zf T 100 [.tmp 4] false:=by refine⟨zz T ?_,zz T ?_,zz T ?_,zz T ?_,zz T ?_,zz T ?_,zz T ?_,zi T ?_,xk T ?_,zz T ?_,zh T (F:=f100) ?_ ?_ ?_⟩<;>kernel_rfl
@[go_sem]theorem fr8:qv T 8 false none false∧zm T 8 9:=by refine⟨⟨?_,?_,?_⟩,zl T (F:=f8) ?_ ?_⟩<;>kernel_rfl
@[go_sem]theorem fr11:qv T 11 false none false∧yp T 11 39 3 [41]:=by refine⟨⟨?_,?_,?_⟩,yw T (F:=f11) ?_ ?_⟩<;>kernel_rfl
@[go_sem]theorem fr35:qv T 35 false none false∧zm T 35 41:=by refine⟨⟨?_,?_,?_⟩,zl T (F:=f35) ?_ ?_⟩<;>kernel_rfl
@[go_sem]theorem fr36:qv T 36 false none false∧yp T 36 39 3 []:=by refine⟨⟨?_,?_,?_⟩,yw T (F:=f36) ?_ ?_⟩<;>kernel_rfl
def ye0:=nv 2 f11
def yez:=nv 12 f11
def yey:=nv 26 f11
def yex:=nv 108 f11
def yew:=nv 14 f11
def yev:=nv 30 f11
theorem yj1:qy T 11 28 (.seq (ye0) (.seq (.seq (yez) (.seq (yey) (.cond (.tmp 17) (.seq (yex) (.ret)) (.skip)))) (.seq (yew) (.seq (yev) (.ret))))):=zp T (F:=f11) (by kernel_rfl) (by kernel_rfl) (by kernel_rfl)
@[go_sem↓]theorem run11:RR ye0 [oo 3 (.box 58 (.tmp 0)),oo 6 on,oo 7 (oi 0),oo 8 (oi 0)]∧RR yez [oo 12 (oL 58 3),oo 13 (oM 1),oo 14 (oM 2),oo 15 (.call ⟨.value (.func 35),#[.tmp 12,.tmp 13,.tmp 14,.const (.bool true)],#[58,37,39,4]⟩),oo 9 (oG 15)]∧RR yey [oo 16 (oM 9),oo 17 (oC .neq 41 16 0)]∧RR yex [oo 18 (oM 9),oo 6 on,oo 7 (oi 0),oo 8 (oG 18)]∧RR yew [oo 20 (oL 58 3),oo 21 (oM 1),oo 22 (oM 2),oo 23 (.call ⟨.value (.func 36),#[.tmp 20,.tmp 21,.tmp 22],#[58,37,39]⟩),oo 19 (oM 23),oo 24 (oX 19 0),oo 25 (oX 19 1),oo 10 (oG 24),oo 11 (oG 25)]∧RR yev [oo 26 (oM 10),oo 27 (oM 11),oo 6 (oG 26),oo 7 (oG 27),oo 8 (oi 0)]∧zf T 11 [.tmp 6,.tmp 7,.tmp 8] false:=by refine⟨zz T ?_,zz T ?_,zz T ?_,zz T ?_,zz T ?_,zz T ?_,zh T (F:=f11) ?_ ?_ ?_⟩<;>kernel_rfl
@[go_sem]theorem fr14:qv T 14 false none false∧yp T 14 76 39 []:=by refine⟨⟨?_,?_,?_⟩,yw T (F:=f14) ?_ ?_⟩<;>kernel_rfl
def yc8:=nv 2 f14
def yc7:=nv 6 f14
def ycw:=nv 14 f14
def ycs:=nv 60 f14
def zcs:=nv 244 f14
def ycr:=nv 488 f14
def ycq:=nv 7832 f14
def ycp:=nv 15666 f14
def yco:=nv 31334 f14
def ycn:=nv 62670 f14
def ycm:=nv 250684 f14
def zf4:=nv 1002740 f14
def yc6:=nv 2005480 f14
def yc5:=nv 32087704 f14
def yc4:=nv 64175410 f14
def yc3:=nv 256701644 f14
def yc2:=nv 1026806580 f14
def yc1:=nv 2053613162 f14
def yc0:=nv 2053613163 f14
def ycz:=nv 513403291 f14
def ycy:=nv 513403292 f14
def ycx:=nv 1026806586 f14
def ycv:=nv 513403294 f14
def ycu:=nv 513403295 f14
def yct:=nv 8021927 f14
def zha:=nv 250686 f14
def zg9:=nv 1002748 f14
def zg8:=nv 2005498 f14
def zg7:=nv 1002750 f14
def zg6:=nv 2005502 f14
def zg5:=nv 1959 f14
def r14_29:=nv 62 f14
theorem xax:qy T 14 119 (.seq (yc8) (.seq (yc7) (.seq (ycw) (.seq (.seq (ycs) (.block 0 (.loop zcs))) (.seq (r14_29) (.ret)))))):=zp T (F:=f14) (by kernel_rfl) (by kernel_rfl) (by kernel_rfl)
@[go_sem↓]theorem run14:RR yc8 [oo 2 (.box 72 (.tmp 0)),oo 4 (.alloc 76),oo 5 on]∧RR yc7 [oo 16 (oF 72 2 3),oo 17 (oL 5 16),oo 18 (.convert 5 3 (.tmp 17)),oo 19 (.build 76 #[(1,.tmp 18)]),oo 6 (.alloc 76),ow 76 6 19]∧RR ycw [oo 7 on]∧RR ycs [oo 20 (.move (.const (.int .i64 0)))]∧RR ycr [oo 21 (oC .lss 3 20 7)]∧RR ycq [oo 22 (oM 20),oo 8 (oG 22)]∧RR ycp [oo 9 on]∧RR yco [oo 10 on]∧RR ycn [oo 11 (.assign (.const (.bool false)))]∧RR ycm [oo 23 (oF 72 2 0),oo 24 (oL 65 23),oo 25 (oN 24 65),oo 26 (.move (.const (.int .i64 0)))]∧RR yc6 [oo 27 (oB .lss 3 26 25)]∧RR yc5 [oo 28 (oM 26),oo 29 (oI 65 24 26),oo 30 (oL 66 29),oo 12 (oG 28),oo 13 (oG 30)]∧RR yc4 [oo 14 (oi 0)]∧RR yc3 [oo 31 (oM 8),oo 32 (oC .lss 3 31 3)]∧RR yc2 [oo 33 (oM 13),oo 34 (.convert 66 3 (.tmp 33)),oo 35 (oM 8),oo 36 (oM 12),oo 37 (oF 72 2 1),oo 38 (oI 68 37 35),oo 39 (oI 67 38 36),oo 40 (oL 66 39),oo 41 (.convert 66 3 (.tmp 40)),oo 42 (.call ⟨.builtin .min,#[.tmp 34,.tmp 41],#[3,3]⟩),oo 14 (oG 42)]∧RR yc1 [oo 43 (oM 8),oo 44 (oF 72 2 2),oo 45 (oI 69 44 43),oo 46 (oL 5 45),oo 47 (.convert 5 3 (.tmp 46)),oo 15 (oG 47)]∧RR yc0 [oo 48 (oM 10),oo 49 (oM 14),oo 50 (oM 15),oo 51 (oB .sub 3 49 50),oo 52 (.call ⟨.builtin .max,#[.const (.int .i64 0),.tmp 51],#[3,3]⟩),oo 53 (oM 14),oo 54 (oM 15),oo 55 (oB .add 3 53 54),oo 56 (.build 100 #[(0,.tmp 52),(1,.tmp 55)]),oo 57 (oS 101 56),oo 58 (oA 48 57 101),oo 10 (oG 58)]∧RR ycz [oo 59 (oM 10),oo 60 (oF 76 6 1),oo 61 (oL 3 60),oo 62 (oC .add 3 61 1),oo 63 (oF 76 6 1),oo 64 (oL 3 63),oo 65 (oC .add 3 64 50),oo 66 (.build 100 #[(0,.tmp 62),(1,.tmp 65)]),oo 67 (oS 101 66),oo 68 (oA 59 67 101),oo 10 (oG 68)]∧RR ycy [oo 69 (oM 1),oo 70 (oM 8),oo 71 (o2 13 69 70 39 3)]∧RR ycx [oo 14 (oi 0)]∧RR ycv [oo 72 (oM 11),oo 73 (oM 72),of 74 (oM 14) 73,of 75 (oF 76 6 1) 73,of 76 (oL 3 75) 73,of 77 (oB .gtr 3 74 76) 73,oo 78 (.pick (.tmp 73) (.const (.bool true)) (.tmp 77)),oo 11 (oG 78)]∧RR ycu [oo 79 (oM 9),oo 80 (oM 13),oo 81 (.convert 66 3 (.tmp 80)),oo 82 (oM 14),oo 83 (oB .sub 3 81 82),oo 84 (oS 39 83),oo 85 (oA 79 84 39),oo 9 (oG 85)]∧RR yct [oo 86 (oC .add 3 26 1),oo 26 (oM 86)]∧RI zf4 (.seq (yc6) (.seq (.cond (.tmp 27) (.skip) (.exit 2)) (.seq (.block 3 (.seq (yc5) (.seq (yc4) (.seq (.seq (yc3) (.cond (.tmp 32) (.seq (yc2) (.seq (yc1) (yc0))) (ycz))) (.seq (.seq (ycy) (.cond (.tmp 71) (ycx) (.skip))) (.seq (ycv) (ycu))))))) (yct))))∧xv T 14 zf4 [1,2,4,6,7,8,9,10,11,20,24,25,26]∧RR zha [oo 87 (oF 76 6 0),oo 88 (oL 73 87),oo 89 (oM 9),oo 90 (oS 73 89),oo 91 (oA 88 90 73),oo 92 (oF 76 6 0),ow 73 92 91]∧RR zg9 [oo 93 (oM 8),oo 94 (oF 72 2 4),oo 95 (oL 5 94),oo 96 (.convert 5 3 (.tmp 95)),oo 97 (oC .rem 3 96 4),oo 98 (.binOp .add 3 (.const (.int .i64 3)) (.tmp 97) 3),oo 99 (oB .lss 3 93 98)]∧RD zg8 14 [oo 100 (oF 76 6 2),oo 101 (oL 74 100),oo 102 (oM 8),oo 103 (o1 8 102 3),oo 104 (.binOp .add 9 (.const (.string ⟨#[99,97,117,115,101]⟩)) (.tmp 103) 9),oo 105 (oM 8),oo 106 (oM 10),oo 107 (.build 103 #[(0,.tmp 104),(1,.tmp 105),(2,.tmp 106)]),oo 108 (oS 74 107),oo 109 (oA 101 108 74),oo 110 (oF 76 6 2),ow 74 110 109] [(0,2),(1,2),(0,3),(1,3),(0,4),(1,4),(0,5),(1,5),(2,5),(3,5),(4,5),(0,6),(1,6),(2,6),(3,6),(4,6),(5,6),(0,7),(1,7),(0,8),(1,8)]∧RR zg7 [oo 111 (oM 11)]∧RR zg6 [oo 112 (oM 7),oo 113 (oM 8),oo 114 (oS 39 113),oo 115 (oA 112 114 39),oo 7 (oG 115)]∧RR zg5 [oo 116 (oC .add 3 20 1),oo 20 (oM 116)]∧RI zcs (.seq (ycr) (.seq (.cond (.tmp 21) (.skip) (.exit 0)) (.seq (.block 1 (.seq (ycq) (.seq (ycp) (.seq (yco) (.seq (ycn) (.seq (.seq (ycm) (.block 2 (.loop zf4))) (.seq (zha) (.seq (.seq (zg9) (.cond (.tmp 99) (zg8) (.skip))) (.seq (zg7) (.cond (.tmp 111) (zg6) (.skip))))))))))) (zg5))))∧xv T 14 zcs [1,2,4,6,7,20]∧RR r14_29 [oo 117 (oL 76 6),oo 118 (oM 7),ow 76 4 117,oo 5 (oG 118)]∧zf T 14 [.cell 4 76,.tmp 5] false:=by refine⟨zz T ?_,zz T ?_,zz T ?_,zz T ?_,zz T ?_,zz T ?_,zz T ?_,zz T ?_,zz T ?_,zz T ?_,zz T ?_,zz T ?_,zz T ?_,zz T ?_,zz T ?_,zz T ?_,zz T ?_,zz T ?_,zz T ?_,zz T ?_,zz T ?_,zz T ?_,zz T ?_,zi T ?_,xk T ?_,zz T ?_,zz T ?_,xo T (id:=25) ?_ ?_,zz T ?_,zz T ?_,zz T ?_,zi T ?_,xk T ?_,zz T ?_,zh T (F:=f14) ?_ ?_ ?_⟩<;>kernel_rfl
@[go_sem]theorem fr21:qv T 21 false none false∧yp T 21 39 3 [41]:=by refine⟨⟨?_,?_,?_⟩,yw T (F:=f21) ?_ ?_⟩<;>kernel_rfl
@[go_sem]theorem fr54:qv T 54 false none false∧zm T 54 41:=by refine⟨⟨?_,?_,?_⟩,zl T (F:=f54) ?_ ?_⟩<;>kernel_rfl
@[go_sem]theorem fr55:qv T 55 false none false∧zm T 55 41:=by refine⟨⟨?_,?_,?_⟩,zl T (F:=f55) ?_ ?_⟩<;>kernel_rfl
@[go_sem]theorem fr56:qv T 56 false none false∧zm T 56 41:=by refine⟨⟨?_,?_,?_⟩,zl T (F:=f56) ?_ ?_⟩<;>kernel_rfl
@[go_sem]theorem fr57:qv T 57 false none false∧zm T 57 149:=by refine⟨⟨?_,?_,?_⟩,zl T (F:=f57) ?_ ?_⟩<;>kernel_rfl
def ya1:=nv 2 f21
def ya0:=nv 12 f21
def yar:=nv 26 f21
def yaq:=nv 108 f21
def yap:=nv 14 f21
def yao:=nv 60 f21
def zf3:=nv 244 f21
def yan:=nv 488 f21
def yam:=nv 7832 f21
def yal:=nv 15666 f21
def yak:=nv 31334 f21
def yaz:=nv 125340 f21
def zjh:=nv 501364 f21
def yay:=nv 1002728 f21
def yax:=nv 16043672 f21
def yaw:=nv 32087346 f21
def yav:=nv 128349388 f21
def yau:=nv 256698778 f21
def yat:=nv 256698779 f21
def yas:=nv 4010919 f21
def r21_18:=nv 250684 f21
def r21_19:=nv 250686 f21
def r21_20:=nv 501374 f21
def zly:=nv 501375 f21
def zlx:=nv 1959 f21
def r21_23:=nv 62 f21
def r21_24:=nv 126 f21
theorem xan:qy T 21 96 (.seq (ya1) (.seq (.seq (ya0) (.seq (yar) (.cond (.tmp 24) (.seq (yaq) (.ret)) (.skip)))) (.seq (yap) (.seq (.seq (yao) (.block 0 (.loop zf3))) (.seq (r21_23) (.seq (r21_24) (.ret))))))):=zp T (F:=f21) (by kernel_rfl) (by kernel_rfl) (by kernel_rfl)
@[go_sem↓]theorem run21:RR ya1 [oo 2 (.box 58 (.tmp 0)),oo 4 on,oo 5 (oi 0),oo 6 (oi 0)]∧RR ya0 [oo 17 (oL 58 2),oo 18 (o1 55 17 58),oo 19 (oM 1),oo 20 (o1 56 19 37),oo 21 (.buildSlice 114 2 #[(0,.tmp 18),(1,.tmp 20)]),oo 22 (o1 54 21 114),oo 7 (oG 22)]∧RR yar [oo 23 (oM 7),oo 24 (oC .neq 41 23 0)]∧RR yaq [oo 25 (oM 7),oo 4 on,oo 5 (oi 0),oo 6 (oG 25)]∧RR yap [oo 8 on]∧RR yao [oo 26 (oM 1),oo 27 (oN 26 37),oo 28 (.binOp .shl 3 (.const (.int .i64 1)) (.tmp 27) 3),oo 29 (.move (.const (.int .i64 0)))]∧RR yan [oo 30 (oB .lss 3 29 28)]∧RR yam [oo 31 (oM 29),oo 9 (oG 31)]∧RR yal [oo 10 (.alloc 149)]∧RR yak [oo 11 (oi 0)]∧RR yaz [oo 32 (oM 1),oo 33 (oN 32 37),oo 34 (.move (.const (.int .i64 0)))]∧RR yay [oo 35 (oB .lss 3 34 33)]∧RR yax [oo 36 (oM 34),oo 37 (oI 37 32 34),oo 38 (oL 50 37),oo 13 (.alloc 50),oo 12 (oG 36),ow 50 13 38]∧RR yaw [oo 39 (oM 9),oo 40 (oM 12),oo 41 (oB .shr 3 39 40),oo 42 (oC .and 3 41 1),oo 43 (oC .eql 3 42 1)]∧RR yav [oo 44 (oF 149 10 0),oo 45 (oF 147 44 0),oo 46 (oL 39 45),oo 47 (oM 12),oo 48 (oS 39 47),oo 49 (oA 46 48 39),oo 50 (oF 149 10 0),oo 51 (oF 147 50 0),ow 39 51 49]∧RR yau [oo 52 (oF 149 10 1),oo 53 (oL 3 52),oo 54 (oF 50 13 2),oo 55 (oL 3 54),oo 56 (oB .add 3 53 55),oo 57 (oF 149 10 1),ow 3 57 56]∧RR yat [oo 58 (oM 11),oo 59 (oF 50 13 3),oo 60 (oL 3 59),oo 61 (oB .add 3 58 60),oo 11 (oG 61)]∧RR yas [oo 62 (oC .add 3 34 1),oo 34 (oM 62)]∧RI zjh (.seq (yay) (.seq (.cond (.tmp 35) (.skip) (.exit 2)) (.seq (.block 3 (.seq (yax) (.seq (yaw) (.cond (.tmp 43) (.seq (yav) (.seq (yau) (yat))) (.skip))))) (yas))))∧xv T 21 zjh [1,2,8,9,10,11,28,29,32,33,34]∧RR r21_18 [oo 63 (oM 11),oo 64 (oF 58 2 1),oo 65 (oL 3 64),oo 66 (oB .gtr 3 63 65)]∧RR r21_19 [oo 68 (oL 58 2),oo 69 (oM 1),oo 70 (oF 149 10 0),oo 71 (oF 147 70 0),oo 72 (oL 39 71),oo 73 (.call ⟨.value (.func 36),#[.tmp 68,.tmp 69,.tmp 72],#[58,37,39]⟩),oo 67 (oM 73),oo 74 (oX 67 0),oo 75 (oX 67 1),oo 14 (oG 74),oo 15 (oG 75)]∧RR r21_20 [oo 76 (oF 149 10 1),oo 77 (oL 3 76),oo 78 (oF 58 2 2),oo 79 (oL 3 78),oo 80 (oM 15),oo 81 (oB .mul 3 79 80),oo 82 (oB .sub 3 77 81),oo 83 (oF 149 10 1),ow 3 83 82]∧RR zly [oo 84 (oM 8),oo 85 (oL 149 10),oo 86 (oS 145 85),oo 87 (oA 84 86 145),oo 8 (oG 87)]∧RR zlx [oo 88 (oC .add 3 29 1),oo 29 (oM 88)]∧RI zf3 (.seq (yan) (.seq (.cond (.tmp 30) (.skip) (.exit 0)) (.seq (.block 1 (.seq (yam) (.seq (yal) (.seq (yak) (.seq (.seq (yaz) (.block 2 (.loop zjh))) (.seq (.seq (r21_18) (.cond (.tmp 66) (.exit 1) (.skip))) (.seq (r21_19) (.seq (r21_20) (zly))))))))) (zlx))))∧xv T 21 zf3 [1,2,8,28,29]∧RR r21_23 [oo 89 (oM 8),oo 90 (o1 57 89 145),oo 16 (.alloc 149),ow 149 16 90]∧RD r21_24 21 [oo 91 (oF 149 16 0),oo 92 (oF 147 91 0),oo 93 (oL 39 92),oo 94 (oF 149 16 1),oo 95 (oL 3 94),oo 4 (oG 93),oo 5 (oG 95),oo 6 (oi 0)] [(0,3),(1,3),(2,3),(0,4),(1,4),(2,4),(3,5),(4,5)]∧zf T 21 [.tmp 4,.tmp 5,.tmp 6] false:=by refine⟨zz T ?_,zz T ?_,zz T ?_,zz T ?_,zz T ?_,zz T ?_,zz T ?_,zz T ?_,zz T ?_,zz T ?_,zz T ?_,zz T ?_,zz T ?_,zz T ?_,zz T ?_,zz T ?_,zz T ?_,zz T ?_,zi T ?_,xk T ?_,zz T ?_,zz T ?_,zz T ?_,zz T ?_,zz T ?_,zi T ?_,xk T ?_,zz T ?_,xo T (id:=24) ?_ ?_,zh T (F:=f21) ?_ ?_ ?_⟩<;>kernel_rfl
@[go_sem]theorem fr22:qv T 22 false none false∧yp T 22 3 41 []:=by refine⟨⟨?_,?_,?_⟩,yw T (F:=f22) ?_ ?_⟩<;>kernel_rfl
@[go_sem]theorem fr58:qv T 58 false none false∧zm T 58 41:=by refine⟨⟨?_,?_,?_⟩,zl T (F:=f58) ?_ ?_⟩<;>kernel_rfl
@[go_sem]theorem fr59:qv T 59 false none false∧zm T 59 3:=by refine⟨⟨?_,?_,?_⟩,zl T (F:=f59) ?_ ?_⟩<;>kernel_rfl
@[go_sem]theorem fr60:qv T 60 false none false∧zm T 60 39:=by refine⟨⟨?_,?_,?_⟩,zl T (F:=f60) ?_ ?_⟩<;>kernel_rfl
@[go_sem]theorem fr61:qv T 61 false none false∧zm T 61 3:=by refine⟨⟨?_,?_,?_⟩,zl T (F:=f61) ?_ ?_⟩<;>kernel_rfl
def yaj:=nv 2 f22
def yai:=nv 12 f22
def yah:=nv 26 f22
def yag:=nv 108 f22
def yaf:=nv 14 f22
theorem xam:qy T 22 29 (.seq (yaj) (.seq (.seq (yai) (.seq (yah) (.cond (.tmp 18) (.seq (yag) (.ret)) (.skip)))) (.seq (yaf) (.ret)))):=zp T (F:=f22) (by kernel_rfl) (by kernel_rfl) (by kernel_rfl)
@[go_sem↓]theorem run22:RR yaj [oo 3 (.box 58 (.tmp 0)),oo 5 (.box 3 (.tmp 2)),oo 6 (oi 0),oo 7 (oi 0)]∧RD yai 22 [oo 9 (oL 58 3),oo 10 (o1 55 9 58),oo 11 (oM 1),oo 12 (o1 56 11 37),oo 13 (oL 3 5),oo 14 (o1 58 13 3),oo 15 (.buildSlice 114 3 #[(0,.tmp 10),(1,.tmp 12),(2,.tmp 14)]),oo 16 (o1 54 15 114),oo 8 (oG 16)] [(0,2),(1,2),(0,4),(1,4),(2,4),(3,4)]∧RR yah [oo 17 (oM 8),oo 18 (oC .neq 41 17 0)]∧RR yag [oo 19 (oM 8),oo 6 (oi 0),oo 7 (oG 19)]∧RD yaf 22 [oo 20 (oL 3 5),oo 21 (oF 58 3 1),oo 22 (oL 3 21),oo 23 (oB .mul 3 20 22),oo 24 (oM 1),oo 25 (.makeFunc (.func 61) #[] #[.tmp 5]),oo 26 (o2 60 24 25 37 154),oo 27 (o1 59 26 39),oo 28 (oB .add 3 23 27),oo 6 (oG 28),oo 7 (oi 0)] [(0,1),(0,2),(0,4),(1,4),(2,4),(3,4),(0,5),(1,5),(2,5),(3,5),(4,5),(0,6),(1,6),(2,6),(3,6),(0,7),(1,7),(2,7),(3,7)]∧zf T 22 [.tmp 6,.tmp 7] false:=by refine⟨zz T ?_,xo T (id:=1) ?_ ?_,zz T ?_,zz T ?_,xo T (id:=4) ?_ ?_,zh T (F:=f22) ?_ ?_ ?_⟩<;>kernel_rfl
@[go_sem]theorem fr23:qv T 23 false none false∧yp T 23 90 41 []:=by refine⟨⟨?_,?_,?_⟩,yw T (F:=f23) ?_ ?_⟩<;>kernel_rfl
@[go_sem]theorem fr63:qv T 63 false none false∧zm T 63 41:=by refine⟨⟨?_,?_,?_⟩,zl T (F:=f63) ?_ ?_⟩<;>kernel_rfl
@[go_sem]theorem fr67:qv T 67 false none false∧zm T 67 41:=by refine⟨⟨?_,?_,?_⟩,zl T (F:=f67) ?_ ?_⟩<;>kernel_rfl
def zzu:=nv 2 f35
def zzt:=nv 12 f35
def zzo:=nv 26 f35
def zzn:=nv 108 f35
def zzm:=nv 28 f35
def zje:=nv 116 f35
def zzl:=nv 232 f35
def zzk:=nv 3736 f35
def zzj:=nv 7474 f35
def zzi:=nv 29900 f35
def zzh:=nv 59802 f35
def zzs:=nv 29902 f35
def zzr:=nv 59806 f35
def zzq:=nv 239228 f35
def zzp:=nv 935 f35
def zls:=nv 30 f35
theorem yjx:qy T 35 66 (.seq (zzu) (.seq (.seq (zzt) (.seq (zzo) (.cond (.tmp 21) (.seq (zzn) (.ret)) (.skip)))) (.seq (.seq (zzm) (.block 0 (.loop zje))) (.seq (zls) (.ret))))):=zp T (F:=f35) (by kernel_rfl) (by kernel_rfl) (by kernel_rfl)
@[go_sem↓]theorem run35:RR zzu [oo 4 (.box 58 (.tmp 0)),oo 8 (oi 0)]∧RR zzt [oo 14 (oL 58 4),oo 15 (o1 55 14 58),oo 16 (oM 1),oo 17 (o1 56 16 37),oo 18 (.buildSlice 114 2 #[(0,.tmp 15),(1,.tmp 17)]),oo 19 (o1 54 18 114),oo 9 (oG 19)]∧RR zzo [oo 20 (oM 9),oo 21 (oC .neq 41 20 0)]∧RR zzn [oo 22 (oM 9),oo 8 (oG 22)]∧RR zzm [oo 23 (oM 2),oo 24 (oN 23 39),oo 25 (.move (.const (.int .i64 0)))]∧RR zzl [oo 26 (oB .lss 3 25 24)]∧RR zzk [oo 27 (oM 25),oo 28 (oI 39 23 25),oo 29 (oL 3 28),oo 10 (oG 27),oo 11 (oG 29)]∧RR zzj [oo 30 (oM 2),oo 31 (oM 10),oo 32 (.slice 39 (.tmp 30) none (some (.tmp 31)) none),oo 33 (oM 11),oo 34 (o2 72 32 33 39 3),oo 35 (.call ⟨.value (.func 63),#[.tmp 34,.const (.int .i64 9)],#[4,41]⟩),oo 12 (oG 35)]∧RR zzi [oo 36 (oM 3)]∧RR zzh [oo 37 (oM 10),oo 38 (oC .gtr 3 37 0),oo 39 (oM 38),ot 40 (oM 11) 39,ot 41 (oM 2) 39,ot 42 (oM 10) 39,ot 43 (.call ⟨.builtin .max,#[.tmp 42,.const (.int .i64 1)],#[3,3]⟩) 39,ot 44 (oC .sub 3 43 1) 39,ot 45 (oI 39 41 44) 39,ot 46 (oL 3 45) 39,ot 47 (oB .leq 3 40 46) 39,oo 48 (.pick (.tmp 39) (.tmp 47) (.const (.bool false))),oo 49 (.call ⟨.value (.func 63),#[.tmp 48,.const (.int .i64 11)],#[4,41]⟩),oo 12 (oG 49)]∧RR zzs [oo 50 (oM 11),oo 51 (oC .lss 3 50 0),oo 52 (oM 51),of 53 (oM 11) 52,of 54 (oM 1) 52,of 55 (oN 54 37) 52,of 56 (oB .geq 3 53 55) 52,oo 57 (.pick (.tmp 52) (.const (.bool true)) (.tmp 56)),oo 58 (.call ⟨.value (.func 63),#[.tmp 57,.const (.int .i64 10)],#[4,41]⟩),oo 59 (oM 12),oo 60 (.buildSlice 114 2 #[(0,.tmp 58),(1,.tmp 59)]),oo 61 (o1 54 60 114),oo 13 (oG 61)]∧RR zzr [oo 62 (oM 13),oo 63 (oC .neq 41 62 0)]∧RR zzq [oo 64 (oM 13),oo 8 (oG 64)]∧RR zzp [oo 65 (oC .add 3 25 1),oo 25 (oM 65)]∧RI zje (.seq (zzl) (.seq (.cond (.tmp 26) (.skip) (.exit 0)) (.seq (.block 1 (.seq (zzk) (.seq (zzj) (.seq (.seq (zzi) (.cond (.tmp 36) (zzh) (.skip))) (.seq (zzs) (.seq (zzr) (.cond (.tmp 63) (.seq (zzq) (.ret)) (.skip)))))))) (zzp))))∧xv T 35 zje [1,2,3,23,24,25]∧RR zls [oo 8 (oi 0)]∧zf T 35 [.tmp 8] false:=by refine⟨zz T ?_,zz T ?_,zz T ?_,zz T ?_,zz T ?_,zz T ?_,zz T ?_,zz T ?_,zz T ?_,zz T ?_,zz T ?_,zz T ?_,zz T ?_,zz T ?_,zi T ?_,xk T ?_,zz T ?_,zh T (F:=f35) ?_ ?_ ?_⟩<;>kernel_rfl
@[go_sem]theorem fr73:qv T 73 true none false∧zm T 73 4:=by refine⟨⟨?_,?_,?_⟩,zl T (F:=f73) ?_ ?_⟩<;>kernel_rfl
@[go_sem]theorem fr74:qv T 74 true none false∧zm T 74 4:=by refine⟨⟨?_,?_,?_⟩,zl T (F:=f74) ?_ ?_⟩<;>kernel_rfl
def zzg:=nv 2 f36
def zzf:=nv 6 f36
def zze:=nv 14 f36
def zzd:=nv 30 f36
def zzc:=nv 62 f36
theorem yjw:qy T 36 15 (.seq (zzg) (.seq (zzf) (.seq (zze) (.seq (zzd) (.seq (zzc) (.ret)))))):=zp T (F:=f36) (by kernel_rfl) (by kernel_rfl) (by kernel_rfl)
@[go_sem↓]theorem run36:RR zzg [oo 3 (.box 58 (.tmp 0)),oo 4 (.box 37 (.tmp 1)),oo 6 on,oo 7 (oi 0)]∧RR zzf [oo 8 (.alloc 39)]∧RR zze [oo 9 (.alloc 3),⟨none,.store 3 (.tmp 9) (.const (.int .i64 (-1))),none⟩]∧RR zzd [oo 10 (oM 2),oo 11 (.makeFunc (.func 74) #[] #[.tmp 3,.tmp 4,.tmp 9,.tmp 8]),oo 12 (.call ⟨.value (.func 73),#[.const (.slice none 0 0),.tmp 10,.tmp 11],#[39,39,127]⟩)]∧RD zzc 36 [oo 13 (oL 39 8),oo 14 (oL 3 9),oo 6 (oG 13),oo 7 (oG 14)] [(0,1),(1,2)]∧zf T 36 [.tmp 6,.tmp 7] false:=by refine⟨zz T ?_,zz T ?_,zz T ?_,zz T ?_,xo T (id:=4) ?_ ?_,zh T (F:=f36) ?_ ?_ ?_⟩<;>kernel_rfl
@[go_sem]theorem fr37:qv T 37 false none false∧zm T 37 3:=by refine⟨⟨?_,?_,?_⟩,zl T (F:=f37) ?_ ?_⟩<;>kernel_rfl
@[go_sem]theorem fr76:qv T 76 false none false∧zm T 76 3:=by refine⟨⟨?_,?_,?_⟩,zl T (F:=f76) ?_ ?_⟩<;>kernel_rfl
def zzb:=nv 2 f37
def zza:=nv 6 f37
def zy9:=nv 28 f37
def zjd:=nv 116 f37
def zy8:=nv 232 f37
def zy7:=nv 3736 f37
def zy6:=nv 7474 f37
def zy5:=nv 7475 f37
def zy4:=nv 935 f37
def zlr:=nv 30 f37
theorem yjv:qy T 37 42 (.seq (zzb) (.seq (zza) (.seq (.seq (zy9) (.block 0 (.loop zjd))) (.seq (zlr) (.ret))))):=zp T (F:=f37) (by kernel_rfl) (by kernel_rfl) (by kernel_rfl)
@[go_sem↓]theorem run37:RR zzb [oo 3 (.box 58 (.tmp 0)),oo 6 (oi 0)]∧RR zza [oo 11 (oF 58 3 0),oo 12 (oL 31 11),oo 7 (.alloc 31),ow 31 7 12,oo 8 (oi 0)]∧RR zy9 [oo 13 (oM 2),oo 14 (oN 13 39),oo 15 (.move (.const (.int .i64 0)))]∧RR zy8 [oo 16 (oB .lss 3 15 14)]∧RR zy7 [oo 17 (oI 39 13 15),oo 18 (oL 3 17),oo 10 (oG 18)]∧RD zy6 37 [oo 19 (oM 8),oo 20 (oL 31 7),oo 21 (oM 1),oo 22 (oM 10),oo 23 (oI 37 21 22),oo 24 (oF 50 23 1),oo 25 (oL 31 24),oo 26 (.build 164 #[(0,.tmp 20),(1,.tmp 25)]),oo 27 (o1 76 26 164),oo 28 (oB .add 3 19 27),oo 8 (oG 28)] [(0,1),(0,2),(1,2),(0,3),(1,3),(2,3),(0,4),(1,4),(0,5),(1,5),(0,6),(1,6),(0,7),(0,8)]∧RR zy5 [oo 29 (oM 1),oo 30 (oM 10),oo 31 (oI 37 29 30),oo 32 (oF 50 31 1),oo 33 (oL 31 32),ow 31 7 33]∧RR zy4 [oo 34 (oC .add 3 15 1),oo 15 (oM 34)]∧RI zjd (.seq (zy8) (.seq (.cond (.tmp 16) (.skip) (.exit 0)) (.seq (.block 1 (.seq (zy7) (.seq (zy6) (zy5)))) (zy4))))∧xv T 37 zjd [1,3,7,8,13,14,15]∧RR zlr [oo 35 (oM 8),oo 36 (oL 31 7),oo 37 (oF 58 3 0),oo 38 (oL 31 37),oo 39 (.build 164 #[(0,.tmp 36),(1,.tmp 38)]),oo 40 (o1 76 39 164),oo 41 (oB .add 3 35 40),oo 6 (oG 41)]∧zf T 37 [.tmp 6] false:=by refine⟨zz T ?_,zz T ?_,zz T ?_,zz T ?_,zz T ?_,xo T (id:=5) ?_ ?_,zz T ?_,zz T ?_,zi T ?_,xk T ?_,zz T ?_,zh T (F:=f37) ?_ ?_ ?_⟩<;>kernel_rfl
def zv3:=nv 2 f54
def zv2:=nv 12 f54
def zja:=nv 52 f54
def zv1:=nv 104 f54
def zv0:=nv 1688 f54
def zvz:=nv 3378 f54
def zvy:=nv 13516 f54
def zvx:=nv 423 f54
def zln:=nv 14 f54
theorem yz4:qy T 54 15 (.seq (zv3) (.seq (.seq (zv2) (.block 0 (.loop zja))) (.seq (zln) (.ret)))):=zp T (F:=f54) (by kernel_rfl) (by kernel_rfl) (by kernel_rfl)
@[go_sem↓]theorem run54:RR zv3 [oo 2 (oi 0)]∧RR zv2 [oo 5 (oM 0),oo 6 (oN 5 114),oo 7 (.move (.const (.int .i64 0)))]∧RR zv1 [oo 8 (oB .lss 3 7 6)]∧RR zv0 [oo 9 (oI 114 5 7),oo 10 (oL 41 9),oo 4 (oG 10)]∧RR zvz [oo 11 (oM 4),oo 12 (oC .neq 41 11 0)]∧RR zvy [oo 13 (oM 4),oo 2 (oG 13)]∧RR zvx [oo 14 (oC .add 3 7 1),oo 7 (oM 14)]∧RI zja (.seq (zv1) (.seq (.cond (.tmp 8) (.skip) (.exit 0)) (.seq (.block 1 (.seq (zv0) (.seq (zvz) (.cond (.tmp 12) (.seq (zvy) (.ret)) (.skip))))) (zvx))))∧xv T 54 zja [5,6,7]∧RR zln [oo 2 (oi 0)]∧zf T 54 [.tmp 2] false:=by refine⟨zz T ?_,zz T ?_,zz T ?_,zz T ?_,zz T ?_,zz T ?_,zz T ?_,zi T ?_,xk T ?_,zz T ?_,zh T (F:=f54) ?_ ?_ ?_⟩<;>kernel_rfl
@[go_sem]theorem fr102:qv T 102 false none false∧zm T 102 41:=by refine⟨⟨?_,?_,?_⟩,zl T (F:=f102) ?_ ?_⟩<;>kernel_rfl
def zvw:=nv 2 f55
def zvv:=nv 6 f55
theorem yz3:qy T 55 14 (.seq (zvw) (.seq (zvv) (.ret))):=zp T (F:=f55) (by kernel_rfl) (by kernel_rfl) (by kernel_rfl)
@[go_sem↓]theorem run55:RR zvw [oo 1 (.box 58 (.tmp 0)),oo 2 (oi 0)]∧RD zvv 55 [oo 3 (oF 58 1 0),oo 4 (oL 31 3),oo 5 (o1 102 4 31),oo 6 (oF 58 1 1),oo 7 (oL 3 6),oo 8 (.call ⟨.value (.func 67),#[.tmp 7,.const (.int .i64 0),.const (.int .i64 10000)],#[3,3,3]⟩),oo 9 (oF 58 1 2),oo 10 (oL 3 9),oo 11 (o1 58 10 3),oo 12 (.buildSlice 114 3 #[(0,.tmp 5),(1,.tmp 8),(2,.tmp 11)]),oo 13 (o1 54 12 114),oo 2 (oG 13)] [(0,3),(1,3),(2,3),(0,4),(1,4),(2,4),(0,6),(1,6),(2,6),(3,6),(4,6),(5,6),(0,7),(1,7),(2,7),(3,7),(4,7),(5,7)]∧zf T 55 [.tmp 2] false:=by refine⟨zz T ?_,xo T (id:=1) ?_ ?_,zh T (F:=f55) ?_ ?_ ?_⟩<;>kernel_rfl
def zvu:=nv 2 f56
def zvt:=nv 12 f56
def zvq:=nv 52 f56
def zvp:=nv 14 f56
def zvo:=nv 60 f56
def zi9:=nv 244 f56
def zvn:=nv 488 f56
def zvm:=nv 7832 f56
def zvl:=nv 31332 f56
def zvk:=nv 62666 f56
def zvj:=nv 250668 f56
def zvs:=nv 15667 f56
def zvr:=nv 1959 f56
def zlm:=nv 62 f56
theorem yz2:qy T 56 45 (.seq (zvu) (.seq (.seq (zvt) (.cond (.tmp 9) (.seq (zvq) (.ret)) (.skip))) (.seq (zvp) (.seq (.seq (zvo) (.block 0 (.loop zi9))) (.seq (zlm) (.ret)))))):=zp T (F:=f56) (by kernel_rfl) (by kernel_rfl) (by kernel_rfl)
@[go_sem↓]theorem run56:RR zvu [oo 2 (oi 0)]∧RR zvt [oo 7 (oM 0),oo 8 (oN 7 37),oo 9 (oC .gtr 3 8 8)]∧RR zvq [oo 2 (oi 5)]∧RR zvp [oo 10 (.makeMap 188 none),oo 3 (oG 10)]∧RR zvo [oo 11 (oM 0),oo 12 (oN 11 37),oo 13 (.move (.const (.int .i64 0)))]∧RR zvn [oo 14 (oB .lss 3 13 12)]∧RR zvm [oo 15 (oI 37 11 13),oo 16 (oL 50 15),oo 5 (.alloc 50),ow 50 5 16]∧RD zvl 56 [oo 17 (oF 50 5 0),oo 18 (oL 9 17),oo 19 (o1 103 18 9),oo 20 (.unOp .not 4 (.tmp 19)),oo 21 (.call ⟨.value (.func 63),#[.tmp 20,.const (.int .i64 8)],#[4,41]⟩),oo 22 (oM 3),oo 23 (oF 50 5 0),oo 24 (oL 9 23),oo 25 (.lookup 188 (.tmp 22) (.tmp 24) false),oo 26 (.call ⟨.value (.func 63),#[.tmp 25,.const (.int .i64 9)],#[4,41]⟩),oo 27 (oF 50 5 1),oo 28 (oL 31 27),oo 29 (o1 102 28 31),oo 30 (oF 50 5 2),oo 31 (oL 3 30),oo 32 (.call ⟨.value (.func 67),#[.tmp 31,.const (.int .i64 0),.const (.int .i64 1000000)],#[3,3,3]⟩),oo 33 (oF 50 5 3),oo 34 (oL 3 33),oo 35 (.call ⟨.value (.func 67),#[.tmp 34,.const (.int .i64 0),.const (.int .i64 10000)],#[3,3,3]⟩),oo 36 (.buildSlice 114 5 #[(0,.tmp 21),(1,.tmp 26),(2,.tmp 29),(3,.tmp 32),(4,.tmp 35)]),oo 37 (o1 54 36 114),oo 6 (oG 37)] [(0,5),(1,5),(2,5),(3,5),(4,5),(0,6),(1,6),(2,6),(3,6),(4,6),(5,6),(0,7),(1,7),(2,7),(3,7),(4,7),(5,7),(0,8),(1,8),(2,8),(3,8),(4,8),(0,10),(1,10),(2,10),(3,10),(4,10),(5,10),(6,10),(7,10),(8,10),(9,10),(0,11),(1,11),(2,11),(3,11),(4,11),(5,11),(6,11),(7,11),(8,11),(9,11),(0,13),(1,13),(2,13),(3,13),(4,13),(5,13),(6,13),(7,13),(8,13),(9,13),(10,13),(11,13),(12,13),(0,14),(1,14),(2,14),(3,14),(4,14),(5,14),(6,14),(7,14),(8,14),(9,14),(10,14),(11,14),(12,14),(0,16),(1,16),(2,16),(3,16),(4,16),(5,16),(6,16),(7,16),(8,16),(9,16),(10,16),(11,16),(12,16),(13,16),(14,16),(15,16),(0,17),(1,17),(2,17),(3,17),(4,17),(5,17),(6,17),(7,17),(8,17),(9,17),(10,17),(11,17),(12,17),(13,17),(14,17),(15,17)]∧RR zvk [oo 38 (oM 6),oo 39 (oC .neq 41 38 0)]∧RR zvj [oo 40 (oM 6),oo 2 (oG 40)]∧RR zvs [oo 41 (oM 3),oo 42 (oF 50 5 0),oo 43 (oL 9 42),⟨none,.mapUpdate 188 (.tmp 41) (.tmp 43) (.const (.bool true)),none⟩]∧RR zvr [oo 44 (oC .add 3 13 1),oo 13 (oM 44)]∧RI zi9 (.seq (zvn) (.seq (.cond (.tmp 14) (.skip) (.exit 0)) (.seq (.block 1 (.seq (zvm) (.seq (.seq (zvl) (.seq (zvk) (.cond (.tmp 39) (.seq (zvj) (.ret)) (.skip)))) (zvs)))) (zvr))))∧xv T 56 zi9 [3,11,12,13]∧RR zlm [oo 2 (oi 0)]∧zf T 56 [.tmp 2] false:=by refine⟨zz T ?_,zz T ?_,zz T ?_,zz T ?_,zz T ?_,zz T ?_,zz T ?_,xo T (id:=7) ?_ ?_,zz T ?_,zz T ?_,zz T ?_,zz T ?_,zi T ?_,xk T ?_,zz T ?_,zh T (F:=f56) ?_ ?_ ?_⟩<;>kernel_rfl
@[go_sem]theorem fr104:qv T 104 false none false∧zm T 104 149:=by refine⟨⟨?_,?_,?_⟩,zl T (F:=f104) ?_ ?_⟩<;>kernel_rfl
@[go_sem]theorem fr105:qv T 105 false none false∧zm T 105 3:=by refine⟨⟨?_,?_,?_⟩,zl T (F:=f105) ?_ ?_⟩<;>kernel_rfl
def zvi:=nv 2 f57
def zvh:=nv 6 f57
theorem yz1:qy T 57 5 (.seq (zvi) (.seq (zvh) (.ret))):=zp T (F:=f57) (by kernel_rfl) (by kernel_rfl) (by kernel_rfl)
@[go_sem↓]theorem run57:RR zvi [oo 2 (.alloc 149)]∧RR zvh [oo 3 (oM 0),oo 4 (.call ⟨.value (.func 104),#[.tmp 3,.func 105],#[145,191]⟩),ow 149 2 4]∧zf T 57 [.cell 2 149] false:=by refine⟨zz T ?_,zz T ?_,zh T (F:=f57) ?_ ?_ ?_⟩<;>kernel_rfl
def zvg:=nv 2 f58
def zvf:=nv 6 f58
theorem yz0:qy T 58 5 (.seq (zvg) (.seq (zvf) (.ret))):=zp T (F:=f58) (by kernel_rfl) (by kernel_rfl) (by kernel_rfl)
@[go_sem↓]theorem run58:RR zvg [oo 2 (oi 0)]∧RR zvf [oo 3 (oM 0),oo 4 (.call ⟨.value (.func 67),#[.tmp 3,.const (.int .i64 0),.const (.int .i64 1000)],#[3,3,3]⟩),oo 2 (oG 4)]∧zf T 58 [.tmp 2] false:=by refine⟨zz T ?_,zz T ?_,zh T (F:=f58) ?_ ?_ ?_⟩<;>kernel_rfl
def zve:=nv 2 f59
def zvd:=nv 6 f59
def zvc:=nv 28 f59
def zi8:=nv 116 f59
def zvb:=nv 232 f59
def zva:=nv 3736 f59
def zu9:=nv 3737 f59
def zu8:=nv 935 f59
def zll:=nv 30 f59
theorem yjs:qy T 59 17 (.seq (zve) (.seq (zvd) (.seq (.seq (zvc) (.block 0 (.loop zi8))) (.seq (zll) (.ret))))):=zp T (F:=f59) (by kernel_rfl) (by kernel_rfl) (by kernel_rfl)
@[go_sem↓]theorem run59:RR zve [oo 2 (oi 0)]∧RR zvd [oo 3 (oi 0)]∧RR zvc [oo 6 (oM 0),oo 7 (oN 6 39),oo 8 (.move (.const (.int .i64 0)))]∧RR zvb [oo 9 (oB .lss 3 8 7)]∧RR zva [oo 10 (oI 39 6 8),oo 11 (oL 3 10),oo 5 (oG 11)]∧RR zu9 [oo 12 (oM 3),oo 13 (oM 5),oo 14 (oB .add 3 12 13),oo 3 (oG 14)]∧RR zu8 [oo 15 (oC .add 3 8 1),oo 8 (oM 15)]∧RI zi8 (.seq (zvb) (.seq (.cond (.tmp 9) (.skip) (.exit 0)) (.seq (.block 1 (.seq (zva) (zu9))) (zu8))))∧xv T 59 zi8 [3,6,7,8]∧RR zll [oo 16 (oM 3),oo 2 (oG 16)]∧zf T 59 [.tmp 2] false:=by refine⟨zz T ?_,zz T ?_,zz T ?_,zz T ?_,zz T ?_,zz T ?_,zz T ?_,zi T ?_,xk T ?_,zz T ?_,zh T (F:=f59) ?_ ?_ ?_⟩<;>kernel_rfl
def zu7:=nv 2 f60
def zu6:=nv 6 f60
def zu5:=nv 28 f60
def zi7:=nv 116 f60
def zu4:=nv 232 f60
def zu3:=nv 3736 f60
def zu2:=nv 3737 f60
def zu1:=nv 935 f60
def zlk:=nv 30 f60
theorem yzz:qy T 60 22 (.seq (zu7) (.seq (zu6) (.seq (.seq (zu5) (.block 0 (.loop zi7))) (.seq (zlk) (.ret))))):=zp T (F:=f60) (by kernel_rfl) (by kernel_rfl) (by kernel_rfl)
@[go_sem↓]theorem run60:RR zu7 [oo 4 on]∧RR zu6 [oo 5 on]∧RR zu5 [oo 8 (oM 0),oo 9 (oN 8 37),oo 10 (.move (.const (.int .i64 0)))]∧RR zu4 [oo 11 (oB .lss 3 10 9)]∧RR zu3 [oo 12 (oI 37 8 10),oo 13 (oL 50 12),oo 7 (.alloc 50),ow 50 7 13]∧RR zu2 [oo 14 (oM 5),oo 15 (oM 1),oo 16 (oL 50 7),oo 17 (.call ⟨.value (.tmp 15),#[.tmp 16],#[50]⟩),oo 18 (oS 39 17),oo 19 (oA 14 18 39),oo 5 (oG 19)]∧RR zu1 [oo 20 (oC .add 3 10 1),oo 10 (oM 20)]∧RI zi7 (.seq (zu4) (.seq (.cond (.tmp 11) (.skip) (.exit 0)) (.seq (.block 1 (.seq (zu3) (zu2))) (zu1))))∧xv T 60 zi7 [1,5,8,9,10]∧RR zlk [oo 21 (oM 5),oo 4 (oG 21)]∧zf T 60 [.tmp 4] false:=by refine⟨zz T ?_,zz T ?_,zz T ?_,zz T ?_,zz T ?_,zz T ?_,zz T ?_,zi T ?_,xk T ?_,zz T ?_,zh T (F:=f60) ?_ ?_ ?_⟩<;>kernel_rfl
def zu0:=nv 2 f61
def zuz:=nv 6 f61
theorem yzy:qy T 61 12 (.seq (zu0) (.seq (zuz) (.ret))):=zp T (F:=f61) (by kernel_rfl) (by kernel_rfl) (by kernel_rfl)
@[go_sem↓]theorem run61:RR zu0 [oo 2 (.box 50 (.tmp 0)),oo 3 (oi 0)]∧RR zuz [oo 4 (oF 50 2 2),oo 5 (oL 3 4),oo 6 (oL 3 1),oo 7 (oF 50 2 3),oo 8 (oL 3 7),oo 9 (oB .mul 3 6 8),oo 10 (oB .sub 3 5 9),oo 11 (.call ⟨.builtin .max,#[.const (.int .i64 0),.tmp 10],#[3,3]⟩),oo 3 (oG 11)]∧zf T 61 [.tmp 3] false:=by refine⟨zz T ?_,zz T ?_,zh T (F:=f61) ?_ ?_ ?_⟩<;>kernel_rfl
def zuy:=nv 2 f63
def zux:=nv 12 f63
def zuw:=nv 52 f63
def zuv:=nv 14 f63
theorem yzx:qy T 63 7 (.seq (zuy) (.seq (.seq (zux) (.cond (.tmp 5) (.seq (zuw) (.ret)) (.skip))) (.seq (zuv) (.ret)))):=zp T (F:=f63) (by kernel_rfl) (by kernel_rfl) (by kernel_rfl)
@[go_sem↓]theorem run63:RR zuy [oo 4 (oi 0)]∧RR zux [oo 5 (oM 0)]∧RR zuw [oo 6 (oM 1),oo 4 (oG 6)]∧RR zuv [oo 4 (oi 0)]∧zf T 63 [.tmp 4] false:=by refine⟨zz T ?_,zz T ?_,zz T ?_,zz T ?_,zh T (F:=f63) ?_ ?_ ?_⟩<;>kernel_rfl
def zuu:=nv 2 f67
def zut:=nv 6 f67
theorem yzw:qy T 67 16 (.seq (zuu) (.seq (zut) (.ret))):=zp T (F:=f67) (by kernel_rfl) (by kernel_rfl) (by kernel_rfl)
@[go_sem↓]theorem run67:RR zuu [oo 6 (oi 0)]∧RR zut [oo 7 (oM 0),oo 8 (oM 1),oo 9 (oB .lss 3 7 8),oo 10 (oM 9),of 11 (oM 0) 10,of 12 (oM 2) 10,of 13 (oB .gtr 3 11 12) 10,oo 14 (.pick (.tmp 10) (.const (.bool true)) (.tmp 13)),oo 15 (.call ⟨.value (.func 63),#[.tmp 14,.const (.int .i64 3)],#[4,41]⟩),oo 6 (oG 15)]∧zf T 67 [.tmp 6] false:=by refine⟨zz T ?_,zz T ?_,zh T (F:=f67) ?_ ?_ ?_⟩<;>kernel_rfl
@[go_sem]theorem fr75:qv T 75 true none false∧zm T 75 39:=by refine⟨⟨?_,?_,?_⟩,zl T (F:=f75) ?_ ?_⟩<;>kernel_rfl
@[go_sem]theorem fr109:qv T 109 true none false∧zm T 109 39:=by refine⟨⟨?_,?_,?_⟩,zl T (F:=f109) ?_ ?_⟩<;>kernel_rfl
def zuq:=nv 2 f73
def zup:=nv 12 f73
def zuo:=nv 52 f73
def zun:=nv 28 f73
def zfz:=nv 116 f73
def zum:=nv 232 f73
def zul:=nv 3736 f73
def zuk:=nv 7474 f73
def zuj:=nv 14950 f73
def zui:=nv 59804 f73
def zuh:=nv 935 f73
def zg1:=nv 30 f73
theorem zbo:qy T 73 39 (.seq (zuq) (.seq (.seq (zup) (.cond (.tmp 12) (.seq (zuo) (.ret)) (.skip))) (.seq (.seq (zun) (.block 0 (.loop zfz))) (.seq (zg1) (.ret))))):=zp T (F:=f73) (by kernel_rfl) (by kernel_rfl) (by kernel_rfl)
@[go_sem↓]theorem run73:RR zuq [oo 6 (.assign (.const (.bool false)))]∧RR zup [oo 10 (oM 1),oo 11 (oN 10 39),oo 12 (oC .eql 3 11 0)]∧RR zuo [oo 13 (oM 2),oo 14 (oM 0),oo 15 (.call ⟨.value (.tmp 13),#[.tmp 14],#[39]⟩),oo 6 (oG 15)]∧RR zun [oo 16 (oM 1),oo 17 (oN 16 39),oo 18 (.move (.const (.int .i64 0)))]∧RR zum [oo 19 (oB .lss 3 18 17)]∧RR zul [oo 20 (oM 18),oo 21 (oI 39 16 18),oo 22 (oL 3 21),oo 7 (oG 20),oo 8 (oG 22)]∧RR zuk [oo 23 (oM 1),oo 24 (o1 75 23 39),oo 25 (oM 7),oo 26 (oM 7),oo 27 (oC .add 3 26 1),oo 28 (.call ⟨.value (.func 109),#[.tmp 24,.tmp 25,.tmp 27],#[39,3,3]⟩),oo 9 (oG 28)]∧RR zuj [oo 29 (oM 0),oo 30 (o1 75 29 39),oo 31 (oM 8),oo 32 (oS 39 31),oo 33 (oA 30 32 39),oo 34 (oM 9),oo 35 (oM 2),oo 36 (.call ⟨.value (.func 73),#[.tmp 33,.tmp 34,.tmp 35],#[39,39,127]⟩),oo 37 (.unOp .not 4 (.tmp 36))]∧RR zui [oo 6 (.assign (.const (.bool false)))]∧RR zuh [oo 38 (oC .add 3 18 1),oo 18 (oM 38)]∧RI zfz (.seq (zum) (.seq (.cond (.tmp 19) (.skip) (.exit 0)) (.seq (.block 1 (.seq (zul) (.seq (zuk) (.seq (zuj) (.cond (.tmp 37) (.seq (zui) (.ret)) (.skip)))))) (zuh))))∧xv T 73 zfz [0,1,2,16,17,18]∧RR zg1 [oo 6 (.assign (.const (.bool true)))]∧zf T 73 [.tmp 6] true:=by refine⟨zz T ?_,zz T ?_,zz T ?_,zz T ?_,zz T ?_,zz T ?_,zz T ?_,zz T ?_,zz T ?_,zz T ?_,zi T ?_,xk T ?_,zz T ?_,zh T (F:=f73) ?_ ?_ ?_⟩<;>kernel_rfl
def zug:=nv 2 f74
def zuf:=nv 12 f74
def zue:=nv 26 f74
def zud:=nv 54 f74
def zuc:=nv 14 f74
theorem zid:qy T 74 22 (.seq (zug) (.seq (.seq (zuf) (.seq (zue) (.cond (.tmp 18) (zud) (.skip)))) (.seq (zuc) (.ret)))):=zp T (F:=f74) (by kernel_rfl) (by kernel_rfl) (by kernel_rfl)
@[go_sem↓]theorem run74:RR zug [oo 6 (.assign (.const (.bool false)))]∧RR zuf [oo 8 (oL 58 1),oo 9 (oL 37 2),oo 10 (oM 0),oo 11 (.call ⟨.value (.func 37),#[.tmp 8,.tmp 9,.tmp 10],#[58,37,39]⟩),oo 7 (oG 11)]∧RR zue [oo 12 (oL 3 3),oo 13 (oC .lss 3 12 0),oo 14 (oM 13),of 15 (oM 7) 14,of 16 (oL 3 3) 14,of 17 (oB .lss 3 15 16) 14,oo 18 (.pick (.tmp 14) (.const (.bool true)) (.tmp 17))]∧RR zud [oo 19 (oM 0),oo 20 (o1 75 19 39),oo 21 (oM 7),ow 39 4 20,ow 3 3 21]∧RR zuc [oo 6 (.assign (.const (.bool true)))]∧zf T 74 [.tmp 6] true:=by refine⟨zz T ?_,zz T ?_,zz T ?_,zz T ?_,zz T ?_,zh T (F:=f74) ?_ ?_ ?_⟩<;>kernel_rfl
def zub:=nv 2 f75
def zua:=nv 12 f75
def zt9:=nv 52 f75
def zt8:=nv 14 f75
theorem zfl:qy T 75 8 (.seq (zub) (.seq (.seq (zua) (.cond (.tmp 4) (.seq (zt9) (.ret)) (.skip))) (.seq (zt8) (.ret)))):=zp T (F:=f75) (by kernel_rfl) (by kernel_rfl) (by kernel_rfl)
@[go_sem↓]theorem run75:RR zub [oo 2 on]∧RR zua [oo 3 (oM 0),oo 4 (.binOp .eql 39 (.tmp 3) (.const (.slice none 0 0)) 39)]∧RR zt9 [oo 2 on]∧RR zt8 [oo 5 (.buildSlice 39 0 #[]),oo 6 (oM 0),oo 7 (oA 5 6 39),oo 2 (oG 7)]∧zf T 75 [.tmp 2] true:=by refine⟨zz T ?_,zz T ?_,zz T ?_,zz T ?_,zh T (F:=f75) ?_ ?_ ?_⟩<;>kernel_rfl
def zt7:=nv 2 f76
def zt6:=nv 12 f76
def zt5:=nv 52 f76
def zt4:=nv 14 f76
def zt3:=nv 30 f76
theorem yzv:qy T 76 31 (.seq (zt7) (.seq (.seq (zt6) (.cond (.tmp 7) (.seq (zt5) (.ret)) (.skip))) (.seq (zt4) (.seq (zt3) (.ret))))):=zp T (F:=f76) (by kernel_rfl) (by kernel_rfl) (by kernel_rfl)
@[go_sem↓]theorem run76:RR zt7 [oo 1 (.box 164 (.tmp 0)),oo 2 (oi 0)]∧RR zt6 [oo 5 (oL 164 1),oo 6 (.build 164 #[]),oo 7 (oB .eql 164 5 6)]∧RR zt5 [oo 2 (oi 0)]∧RD zt4 76 [oo 8 (.indexAddr 164 (.tmp 1) (.const (.int .i64 0))),oo 9 (oF 31 8 0),oo 10 (oL 3 9),oo 11 (.indexAddr 164 (.tmp 1) (.const (.int .i64 1))),oo 12 (oF 31 11 0),oo 13 (oL 3 12),oo 14 (oB .sub 3 10 13),oo 15 (.indexAddr 164 (.tmp 1) (.const (.int .i64 0))),oo 16 (oF 31 15 1),oo 17 (oL 3 16),oo 18 (.indexAddr 164 (.tmp 1) (.const (.int .i64 1))),oo 19 (oF 31 18 1),oo 20 (oL 3 19),oo 21 (oB .sub 3 17 20),oo 3 (oG 14),oo 4 (oG 21)] [(0,3),(1,3),(2,3),(0,4),(1,4),(2,4),(0,5),(1,5),(2,5),(0,7),(1,7),(2,7),(3,7),(4,7),(5,7),(6,7),(0,8),(1,8),(2,8),(3,8),(4,8),(5,8),(6,8),(0,9),(1,9),(2,9),(3,9),(4,9),(5,9),(6,9),(0,10),(1,10),(2,10),(3,10),(4,10),(5,10),(6,10),(7,10),(8,10),(9,10),(0,11),(1,11),(2,11),(3,11),(4,11),(5,11),(6,11),(7,11),(8,11),(9,11),(0,12),(1,12),(2,12),(3,12),(4,12),(5,12),(6,12),(7,12),(8,12),(9,12),(0,13),(1,13),(2,13),(3,13),(4,13),(5,13),(6,13),(7,14),(8,14),(9,14),(10,14),(11,14),(12,14),(13,14)]∧RR zt3 [oo 22 (oM 3),oo 23 (oM 3),oo 24 (.unOp .neg 3 (.tmp 23)),oo 25 (.call ⟨.builtin .max,#[.tmp 22,.tmp 24],#[3,3]⟩),oo 26 (oM 4),oo 27 (oM 4),oo 28 (.unOp .neg 3 (.tmp 27)),oo 29 (.call ⟨.builtin .max,#[.tmp 26,.tmp 28],#[3,3]⟩),oo 30 (oB .add 3 25 29),oo 2 (oG 30)]∧zf T 76 [.tmp 2] false:=by refine⟨zz T ?_,zz T ?_,zz T ?_,xo T (id:=3) ?_ ?_,zz T ?_,zh T (F:=f76) ?_ ?_ ?_⟩<;>kernel_rfl
def yg4:=nv 2 f102
def yg3:=nv 6 f102
theorem xbf:qy T 102 11 (.seq (yg4) (.seq (yg3) (.ret))):=zp T (F:=f102) (by kernel_rfl) (by kernel_rfl) (by kernel_rfl)
@[go_sem↓]theorem run102:RR yg4 [oo 1 (.box 31 (.tmp 0)),oo 2 (oi 0)]∧RD yg3 102 [oo 3 (oF 31 1 0),oo 4 (oL 3 3),oo 5 (.call ⟨.value (.func 67),#[.tmp 4,.const (.int .i64 (-1000)),.const (.int .i64 1000)],#[3,3,3]⟩),oo 6 (oF 31 1 1),oo 7 (oL 3 6),oo 8 (.call ⟨.value (.func 67),#[.tmp 7,.const (.int .i64 (-1000)),.const (.int .i64 1000)],#[3,3,3]⟩),oo 9 (.buildSlice 114 2 #[(0,.tmp 5),(1,.tmp 8)]),oo 10 (o1 54 9 114),oo 2 (oG 10)] [(0,3),(1,3),(2,3),(0,4),(1,4),(2,4)]∧zf T 102 [.tmp 2] false:=by refine⟨zz T ?_,xo T (id:=1) ?_ ?_,zh T (F:=f102) ?_ ?_ ?_⟩<;>kernel_rfl
def ygv:=nv 2 f104
def ygu:=nv 12 f104
def yq6:=nv 26 f104
def ygt:=nv 14 f104
def ygs:=nv 60 f104
def zjo:=nv 244 f104
def ygr:=nv 976 f104
def ygp:=nv 3912 f104
def ygo:=nv 7826 f104
def ygq:=nv 979 f104
def zl4:=nv 62 f104
theorem xbd:qy T 104 33 (.seq (ygv) (.seq (.seq (ygu) (.cond (.tmp 9) (yq6) (.skip))) (.seq (ygt) (.seq (.seq (ygs) (.block 0 (.loop zjo))) (.seq (zl4) (.ret)))))):=zp T (F:=f104) (by kernel_rfl) (by kernel_rfl) (by kernel_rfl)
@[go_sem↓]theorem run104:RR ygv [oo 4 (.alloc 149)]∧RR ygu [oo 7 (oM 0),oo 8 (oN 7 145),oo 9 (oC .lss 3 8 1)]∧RR ygt [oo 11 (oM 0),oo 12 (.indexAddr 145 (.tmp 11) (.const (.int .i64 0))),oo 13 (oL 149 12),oo 5 (.alloc 149),ow 149 5 13]∧RR ygs [oo 6 (oi 1)]∧RR ygr [oo 14 (oM 6),oo 15 (oM 0),oo 16 (oN 15 145),oo 17 (oB .lss 3 14 16)]∧RD ygp 104 [oo 20 (oM 1),oo 21 (oM 0),oo 22 (oM 6),oo 23 (oI 145 21 22),oo 24 (oL 149 23),oo 25 (oL 149 5),oo 26 (.call ⟨.value (.tmp 20),#[.tmp 24,.tmp 25],#[149,149]⟩),oo 27 (oC .lss 3 26 0)] [(0,1),(0,2),(1,2),(0,3),(0,4),(0,5),(1,5),(2,5),(3,5),(4,5)]∧RR ygo [oo 28 (oM 0),oo 29 (oM 6),oo 30 (oI 145 28 29),oo 31 (oL 149 30),ow 149 5 31]∧RR ygq [oo 18 (oM 6),oo 19 (oC .add 3 18 1),oo 6 (oG 19)]∧RI zjo (.seq (.seq (ygr) (.cond (.tmp 17) (.skip) (.exit 0))) (.seq (.block 1 (.seq (ygp) (.cond (.tmp 27) (ygo) (.skip)))) (ygq)))∧xv T 104 zjo [0,1,4,5,6]∧RR zl4 [oo 32 (oL 149 5),ow 149 4 32]∧zf T 104 [.cell 4 149] false:=by refine⟨zz T ?_,zz T ?_,zz T ?_,zz T ?_,zz T ?_,xo T (id:=7) ?_ ?_,zz T ?_,zz T ?_,zi T ?_,xk T ?_,zz T ?_,zh T (F:=f104) ?_ ?_ ?_⟩<;>kernel_rfl
def ygn:=nv 2 f105
def ygm:=nv 12 f105
def zom:=nv 52 f105
def ygl:=nv 104 f105
def ygk:=nv 1688 f105
def ygj:=nv 3378 f105
def ygi:=nv 6758 f105
def ygh:=nv 27036 f105
def ygg:=nv 423 f105
def ygf:=nv 14 f105
theorem xbc:qy T 105 21 (.seq (ygn) (.seq (.seq (ygm) (.block 0 (.loop zom))) (.seq (ygf) (.ret)))):=zp T (F:=f105) (by kernel_rfl) (by kernel_rfl) (by kernel_rfl)
@[go_sem↓]theorem run105:RR ygn [oo 2 (.box 149 (.tmp 0)),oo 3 (.box 149 (.tmp 1)),oo 4 (oi 0)]∧RR ygm [oo 8 (.load 205 (.global 1)),oo 9 (.move (.const (.int .i64 0)))]∧RR ygl [oo 10 (oC .lss 3 9 3)]∧RR ygk [oo 11 (.index 205 (.tmp 8) (.tmp 9)),oo 6 (.alloc 204),ow 204 6 11]∧RR ygj [oo 12 (oF 204 6 1),oo 13 (oL 191 12),oo 14 (oL 149 2),oo 15 (oL 149 3),oo 16 (.call ⟨.value (.tmp 13),#[.tmp 14,.tmp 15],#[149,149]⟩),oo 7 (oG 16)]∧RR ygi [oo 17 (oM 7),oo 18 (oC .neq 3 17 0)]∧RR ygh [oo 19 (oM 7),oo 4 (oG 19)]∧RR ygg [oo 20 (oC .add 3 9 1),oo 9 (oM 20)]∧RI zom (.seq (ygl) (.seq (.cond (.tmp 10) (.skip) (.exit 0)) (.seq (.block 1 (.seq (ygk) (.seq (ygj) (.seq (ygi) (.cond (.tmp 18) (.seq (ygh) (.ret)) (.skip)))))) (ygg))))∧xv T 105 zom [2,3,8,9]∧RR ygf [oo 4 (oi 0)]∧zf T 105 [.tmp 4] false:=by refine⟨zz T ?_,zz T ?_,zz T ?_,zz T ?_,zz T ?_,zz T ?_,zz T ?_,zz T ?_,zi T ?_,xk T ?_,zz T ?_,zh T (F:=f105) ?_ ?_ ?_⟩<;>kernel_rfl
def yf7:=nv 2 f109
def yf6:=nv 6 f109
def yf5:=nv 28 f109
def yf4:=nv 116 f109
def yf3:=nv 30 f109
def yf2:=nv 62 f109
def yf1:=nv 126 f109
def yf0:=nv 254 f109
theorem xbb:qy T 109 33 (.seq (yf7) (.seq (yf6) (.seq (.seq (yf5) (.cond (.tmp 16) (.seq (yf4) (.ret)) (.skip))) (.seq (yf3) (.seq (yf2) (.seq (yf1) (.seq (yf0) (.ret)))))))):=zp T (F:=f109) (by kernel_rfl) (by kernel_rfl) (by kernel_rfl)
@[go_sem↓]theorem run109:RR yf7 [oo 6 on]∧RR yf6 [oo 8 (oM 0),oo 9 (oM 1),oo 10 (oM 2),oo 11 (oM 0),oo 12 (oN 11 39),oo 13 (.slice 39 (.tmp 8) (some (.tmp 9)) (some (.tmp 10)) (some (.tmp 12)))]∧RR yf5 [oo 14 (oM 1),oo 15 (oM 2),oo 16 (oB .eql 3 14 15)]∧RR yf4 [oo 17 (oM 0),oo 6 (oG 17)]∧RR yf3 [oo 18 (oM 0),oo 19 (oN 18 39),oo 7 (oG 19)]∧RD yf2 109 [oo 20 (oM 0),oo 21 (oM 1),oo 22 (.slice 39 (.tmp 20) none (some (.tmp 21)) none),oo 23 (oM 0),oo 24 (oM 2),oo 25 (.slice 39 (.tmp 23) (some (.tmp 24)) none none),oo 26 (oA 22 25 39),oo 0 (oG 26)] [(0,1),(0,3),(1,3),(2,3),(0,4),(1,4),(2,4),(3,4),(0,5),(1,5),(2,5)]∧RR yf1 [oo 27 (oM 0),oo 28 (oM 0),oo 29 (oN 28 39),oo 30 (oM 7),oo 31 (.slice 39 (.tmp 27) (some (.tmp 29)) (some (.tmp 30)) none),⟨none,.call ⟨.builtin .clear,#[.tmp 31],#[39]⟩,none⟩]∧RR yf0 [oo 32 (oM 0),oo 6 (oG 32)]∧zf T 109 [.tmp 6] true:=by refine⟨zz T ?_,zz T ?_,zz T ?_,zz T ?_,zz T ?_,xo T (id:=5) ?_ ?_,zz T ?_,zz T ?_,zh T (F:=f109) ?_ ?_ ?_⟩<;>kernel_rfl
@[go_sem]theorem fr174:qv T 174 false none false∧zm T 174 3:=by refine⟨⟨?_,?_,?_⟩,zl T (F:=f174) ?_ ?_⟩<;>kernel_rfl
def ycb:=nv 2 f174
def yca:=nv 6 f174
theorem xar:qy T 174 10 (.seq (ycb) (.seq (yca) (.ret))):=zp T (F:=f174) (by kernel_rfl) (by kernel_rfl) (by kernel_rfl)
@[go_sem↓]theorem run174:RR ycb [oo 2 (.box 149 (.tmp 0)),oo 3 (.box 149 (.tmp 1)),oo 4 (oi 0)]∧RR yca [oo 5 (oF 149 3 1),oo 6 (oL 3 5),oo 7 (oF 149 2 1),oo 8 (oL 3 7),oo 9 (o2 94 6 8 3 3),oo 4 (oG 9)]∧zf T 174 [.tmp 4] false:=by refine⟨zz T ?_,zz T ?_,zh T (F:=f174) ?_ ?_ ?_⟩<;>kernel_rfl
@[go_sem]theorem fr175:qv T 175 false none false∧zm T 175 3:=by refine⟨⟨?_,?_,?_⟩,zl T (F:=f175) ?_ ?_⟩<;>kernel_rfl
def yb9:=nv 2 f175
def yb8:=nv 6 f175
theorem xaq:qy T 175 14 (.seq (yb9) (.seq (yb8) (.ret))):=zp T (F:=f175) (by kernel_rfl) (by kernel_rfl) (by kernel_rfl)
@[go_sem↓]theorem run175:RR yb9 [oo 2 (.box 149 (.tmp 0)),oo 3 (.box 149 (.tmp 1)),oo 4 (oi 0)]∧RR yb8 [oo 5 (oF 149 2 0),oo 6 (oF 147 5 0),oo 7 (oL 39 6),oo 8 (oN 7 39),oo 9 (oF 149 3 0),oo 10 (oF 147 9 0),oo 11 (oL 39 10),oo 12 (oN 11 39),oo 13 (o2 94 8 12 3 3),oo 4 (oG 13)]∧zf T 175 [.tmp 4] false:=by refine⟨zz T ?_,zz T ?_,zh T (F:=f175) ?_ ?_ ?_⟩<;>kernel_rfl
@[go_sem]theorem fr176:qv T 176 false none false∧zm T 176 3:=by refine⟨⟨?_,?_,?_⟩,zl T (F:=f176) ?_ ?_⟩<;>kernel_rfl
def yb7:=nv 2 f176
def yb6:=nv 6 f176
theorem xap:qy T 176 12 (.seq (yb7) (.seq (yb6) (.ret))):=zp T (F:=f176) (by kernel_rfl) (by kernel_rfl) (by kernel_rfl)
@[go_sem↓]theorem run176:RR yb7 [oo 2 (.box 149 (.tmp 0)),oo 3 (.box 149 (.tmp 1)),oo 4 (oi 0)]∧RR yb6 [oo 5 (oF 149 2 0),oo 6 (oF 147 5 0),oo 7 (oL 39 6),oo 8 (oF 149 3 0),oo 9 (oF 147 8 0),oo 10 (oL 39 9),oo 11 (o2 95 7 10 39 39),oo 4 (oG 11)]∧zf T 176 [.tmp 4] false:=by refine⟨zz T ?_,zz T ?_,zh T (F:=f176) ?_ ?_ ?_⟩<;>kernel_rfl
@[go_sem]theorem fr4:qv T 4 false none false∧zm T 4 4:=by refine⟨⟨?_,?_,?_⟩,zl T (F:=f4) ?_ ?_⟩<;>kernel_rfl
@[go_sem]theorem fr5:qv T 5 false none false∧zm T 5 4:=by refine⟨⟨?_,?_,?_⟩,zl T (F:=f5) ?_ ?_⟩<;>kernel_rfl
def zxk:=nv 2 f4
def zxj:=nv 12 f4
def zw8:=nv 52 f4
def zwx:=nv 14 f4
def zwu:=nv 30 f4
def zwk:=nv 62 f4
def zwf:=nv 126 f4
def zwe:=nv 254 f4
def zwd:=nv 510 f4
def zwc:=nv 1022 f4
def zxi:=nv 2046 f4
def zxh:=nv 8188 f4
def zxg:=nv 32756 f4
def zxf:=nv 8190 f4
def zxe:=nv 32764 f4
def zxd:=nv 131060 f4
def zxc:=nv 32766 f4
def zxb:=nv 131068 f4
def zjb:=nv 524276 f4
def zxa:=nv 1048552 f4
def zw9:=nv 16776856 f4
def zw7:=nv 67107428 f4
def zw6:=nv 268429716 f4
def zw5:=nv 67107430 f4
def zw4:=nv 268429724 f4
def zoj:=nv 1073718900 f4
def zw3:=nv 2147437800 f4
def zw2:=nv 34359004824 f4
def zw1:=nv 137436019300 f4
def zw0:=nv 549744077204 f4
def zwz:=nv 68718009651 f4
def zwy:=nv 8589751207 f4
def zww:=nv 134214863 f4
def zwv:=nv 4194215 f4
def r4_32:=nv 131070 f4
def r4_33:=nv 262142 f4
def r4_34:=nv 524286 f4
def r4_35:=nv 2097148 f4
def r4_36:=nv 8388596 f4
def r4_37:=nv 2097150 f4
def r4_38:=nv 4194302 f4
def r4_39:=nv 16777212 f4
def zf0:=nv 67108852 f4
def zwt:=nv 134217704 f4
def zws:=nv 2147483288 f4
def zwr:=nv 8589933156 f4
def zwq:=nv 34359732628 f4
def zwp:=nv 8589933158 f4
def zwo:=nv 17179866318 f4
def zwn:=nv 17179866319 f4
def zwm:=nv 536870823 f4
def r4_48:=nv 33554428 f4
def zd5:=nv 134217716 f4
def zwl:=nv 268435432 f4
def zwj:=nv 4294966936 f4
def zwi:=nv 8589933874 f4
def zwh:=nv 17179867750 f4
def zwg:=nv 1073741735 f4
def r4_54:=nv 33554430 f4
def r4_55:=nv 134217724 f4
def r4_56:=nv 536870900 f4
def r4_57:=nv 134217726 f4
def r4_58:=nv 268435454 f4
def r4_59:=nv 1073741820 f4
def r4_60:=nv 4294967284 f4
def r4_61:=nv 2147483644 f4
def r4_62:=nv 8589934580 f4
def r4_63:=nv 17179869162 f4
def r4_64:=nv 68719476652 f4
def r4_65:=nv 2147483646 f4
theorem yjt:qy T 4 416 (.seq (zxk) (.seq (.seq (zxj) (.cond (.tmp 51) (.seq (zw8) (.ret)) (.skip))) (.seq (zwx) (.seq (zwu) (.seq (zwk) (.seq (zwf) (.seq (zwe) (.seq (zwd) (.seq (zwc) (.seq (zxi) (.seq (.seq (zxh) (.cond (.tmp 131) (.seq (zxg) (.ret)) (.skip))) (.seq (zxf) (.seq (.seq (zxe) (.cond (.tmp 142) (.seq (zxd) (.ret)) (.skip))) (.seq (zxc) (.seq (.seq (zxb) (.block 0 (.loop zjb))) (.seq (r4_32) (.seq (r4_33) (.seq (r4_34) (.seq (.seq (r4_35) (.cond (.tmp 267) (.seq (r4_36) (.ret)) (.skip))) (.seq (r4_37) (.seq (r4_38) (.seq (.seq (r4_39) (.block 4 (.loop zf0))) (.seq (.seq (r4_48) (.block 6 (.loop zd5))) (.seq (r4_54) (.seq (.seq (r4_55) (.cond (.tmp 352) (.seq (r4_56) (.ret)) (.skip))) (.seq (r4_57) (.seq (r4_58) (.seq (.seq (r4_59) (.cond (.tmp 384) (.seq (r4_60) (.ret)) (.skip))) (.seq (.seq (r4_61) (.cond (.tmp 387) (.seq (r4_62) (.seq (r4_63) (.cond (.tmp 414) (.seq (r4_64) (.ret)) (.skip)))) (.skip))) (.seq (r4_65) (.ret))))))))))))))))))))))))))))))):=zp T (F:=f4) (by kernel_rfl) (by kernel_rfl) (by kernel_rfl)
@[go_sem↓]theorem run4:RR zxk [oo 1 (.box 72 (.tmp 0)),oo 2 (.assign (.const (.bool false)))]∧RR zxj [oo 42 (oF 72 1 0),oo 43 (oL 65 42),oo 44 (oN 43 65),oo 45 (oC .lss 3 44 1),oo 46 (oM 45),of 47 (oF 72 1 0) 46,of 48 (oL 65 47) 46,of 49 (oN 48 65) 46,of 50 (oC .gtr 3 49 3) 46,oo 51 (.pick (.tmp 46) (.const (.bool true)) (.tmp 50))]∧RR zw8 [oo 52 (.call ⟨.value (.func 5),#[],#[]⟩),oo 2 (oG 52)]∧RR zwx [oo 54 (oL 72 1),oo 55 (.call ⟨.value (.func 14),#[.tmp 54,.const (.slice none 0 0)],#[72,39]⟩),oo 53 (oM 55),oo 56 (oX 53 0),oo 57 (oX 53 1),oo 3 (.alloc 76),ow 76 3 56,oo 4 (oG 57)]∧RR zwu [oo 59 (oL 76 3),oo 60 (o1 15 59 76),oo 58 (oM 60),oo 61 (oX 58 0),oo 62 (oX 58 1),oo 5 (oG 61),oo 6 (oG 62)]∧RR zwk [oo 64 (oL 72 1),oo 65 (.call ⟨.value (.func 14),#[.tmp 64,.const (.slice none 0 0)],#[72,39]⟩),oo 63 (oM 65),oo 66 (oX 63 0),oo 67 (oX 63 1),ow 76 3 66]∧RR zwf [oo 69 (oL 76 3),oo 70 (o1 16 69 76),oo 68 (oM 70),oo 71 (oX 68 0),oo 72 (oX 68 1),oo 7 (oG 71),oo 8 (oG 72)]∧RR zwe [oo 74 (oL 72 1),oo 75 (.call ⟨.value (.func 14),#[.tmp 74,.const (.slice none 0 0)],#[72,39]⟩),oo 73 (oM 75),oo 76 (oX 73 0),oo 77 (oX 73 1),ow 76 3 76]∧RR zwd [oo 79 (oL 76 3),oo 80 (o1 17 79 76),oo 78 (oM 80),oo 81 (oX 78 0),oo 82 (oX 78 1),oo 9 (oG 81),oo 10 (oG 82)]∧RR zwc [oo 84 (oL 72 1),oo 85 (.call ⟨.value (.func 14),#[.tmp 84,.const (.slice none 0 0)],#[72,39]⟩),oo 83 (oM 85),oo 86 (oX 83 0),oo 87 (oX 83 1),ow 76 3 86]∧RR zxi [oo 89 (oL 76 3),oo 90 (o1 18 89 76),oo 88 (oM 90),oo 91 (oX 88 0),oo 92 (oX 88 1),oo 11 (oG 91),oo 12 (oG 92)]∧RR zxh [oo 93 (oM 6),oo 94 (oC .neq 41 93 0),oo 95 (oM 94),of 96 (oM 8) 95,of 97 (oC .neq 41 96 0) 95,oo 98 (.pick (.tmp 95) (.const (.bool true)) (.tmp 97)),oo 99 (oM 98),of 100 (oM 10) 99,of 101 (oC .neq 41 100 0) 99,oo 102 (.pick (.tmp 99) (.const (.bool true)) (.tmp 101)),oo 103 (oM 102),of 104 (oM 12) 103,of 105 (oC .neq 41 104 0) 103,oo 106 (.pick (.tmp 103) (.const (.bool true)) (.tmp 105)),oo 107 (oM 106),of 108 (oM 5) 107,of 109 (oN 108 73) 107,of 110 (oC .neq 3 109 1) 107,oo 111 (.pick (.tmp 107) (.const (.bool true)) (.tmp 110)),oo 112 (oM 111),of 113 (oM 5) 112,of 114 (.indexAddr 73 (.tmp 113) (.const (.int .i64 0))) 112,of 115 (oL 39 114) 112,of 116 (oM 4) 112,of 117 (o2 19 115 116 39 39) 112,of 118 (.unOp .not 4 (.tmp 117)) 112,oo 119 (.pick (.tmp 112) (.const (.bool true)) (.tmp 118)),oo 120 (oM 119),of 121 (oM 7) 120,of 122 (oN 121 73) 120,of 123 (oC .neq 3 122 7) 120,oo 124 (.pick (.tmp 120) (.const (.bool true)) (.tmp 123)),oo 125 (oM 124),of 126 (oM 9) 125,of 127 (oN 126 81) 125,of 128 (oM 4) 125,of 129 (oN 128 39) 125,of 130 (oB .neq 3 127 129) 125,oo 131 (.pick (.tmp 125) (.const (.bool true)) (.tmp 130))]∧RR zxg [oo 2 (.assign (.const (.bool false)))]∧RR zxf [oo 133 (oL 72 1),oo 134 (.call ⟨.value (.func 14),#[.tmp 133,.const (.slice none 0 0)],#[72,39]⟩),oo 132 (oM 134),oo 135 (oX 132 0),oo 136 (oX 132 1),ow 76 3 135]∧RR zxe [oo 137 (oL 76 3),oo 138 (oM 4),oo 139 (oN 138 39),oo 140 (oM 11),oo 141 (.call ⟨.value (.func 20),#[.tmp 137,.tmp 139,.tmp 140],#[76,3,34]⟩),oo 142 (oC .neq 41 141 0)]∧RR zxd [oo 2 (.assign (.const (.bool false)))]∧RR zxc [oo 13 on]∧RR zxb [oo 143 (oM 4),oo 144 (oN 143 39),oo 145 (.move (.const (.int .i64 0)))]∧RR zxa [oo 146 (oB .lss 3 145 144)]∧RR zw9 [oo 147 (oM 145),oo 148 (oI 39 143 145),oo 149 (oL 3 148),oo 14 (oG 147),oo 15 (oG 149)]∧RD zw7 4 [oo 150 (oM 9),oo 151 (oM 14),oo 152 (oI 81 150 151),oo 153 (oL 9 152),oo 154 (oM 15),oo 155 (o1 8 154 3),oo 156 (.binOp .add 9 (.const (.string ⟨#[99,97,117,115,101]⟩)) (.tmp 155) 9),oo 157 (oB .neq 9 153 156),oo 158 (oM 157),of 159 (oM 7) 158,of 160 (oM 15) 158,of 161 (oI 73 159 160) 158,of 162 (oL 39 161) 158,of 163 (oN 162 39) 158,of 164 (oF 72 1 0) 158,of 165 (oL 65 164) 158,of 166 (oN 165 65) 158,of 167 (oB .neq 3 163 166) 158,oo 168 (.pick (.tmp 158) (.const (.bool true)) (.tmp 167))] [(0,1),(0,4),(1,4),(2,4),(3,4),(0,5),(1,5),(2,5),(3,5),(0,6),(1,6),(2,6),(3,6),(9,10),(9,14),(10,14),(11,14),(12,14),(13,14),(9,15),(10,15),(11,15),(12,15),(13,15),(9,16),(10,16),(11,16),(12,16),(13,16)]∧RR zw6 [oo 2 (.assign (.const (.bool false)))]∧RR zw5 [oo 16 (oi 0)]∧RR zw4 [oo 169 (oM 7),oo 170 (oM 15),oo 171 (oI 73 169 170),oo 172 (oL 39 171),oo 173 (oN 172 39),oo 174 (.move (.const (.int .i64 0)))]∧RR zw3 [oo 175 (oB .lss 3 174 173)]∧RR zw2 [oo 176 (oM 174),oo 177 (oI 39 172 174),oo 178 (oL 3 177),oo 17 (oG 176),oo 18 (oG 178)]∧RD zw1 4 [oo 179 (oM 18),oo 180 (oF 72 1 0),oo 181 (oL 65 180),oo 182 (oM 17),oo 183 (oI 65 181 182),oo 184 (oL 66 183),oo 185 (.convert 66 3 (.tmp 184)),oo 186 (oM 15),oo 187 (oM 17),oo 188 (oF 72 1 1),oo 189 (oI 68 188 186),oo 190 (oI 67 189 187),oo 191 (oL 66 190),oo 192 (.convert 66 3 (.tmp 191)),oo 193 (.call ⟨.builtin .min,#[.tmp 185,.tmp 192],#[3,3]⟩),oo 194 (oB .neq 3 179 193)] [(0,1),(0,2),(0,3),(1,3),(2,3),(0,4),(0,5),(0,6),(0,7),(1,7),(2,7),(3,7),(4,7),(5,7),(6,7),(0,8),(1,8),(2,8),(3,8),(4,8),(5,8),(6,8),(7,8),(0,9),(1,9),(2,9),(3,9),(4,9),(5,9),(6,9),(7,9),(8,9),(0,10),(1,10),(2,10),(3,10),(4,10),(5,10),(6,10),(8,10),(0,11),(1,11),(2,11),(3,11),(4,11),(5,11),(6,11),(0,12),(1,12),(2,12),(3,12),(4,12),(5,12),(6,12),(0,13),(1,13),(2,13),(3,13),(4,13),(5,13),(6,13),(0,14)]∧RR zw0 [oo 2 (.assign (.const (.bool false)))]∧RR zwz [oo 195 (oM 16),oo 196 (oM 18),oo 197 (oB .add 3 195 196),oo 16 (oG 197)]∧RR zwy [oo 198 (oC .add 3 174 1),oo 174 (oM 198)]∧RI zoj (.seq (zw3) (.seq (.cond (.tmp 175) (.skip) (.exit 2)) (.seq (.block 3 (.seq (zw2) (.seq (.seq (zw1) (.cond (.tmp 194) (.seq (zw0) (.ret)) (.skip))) (zwz)))) (zwy))))∧xv T 4 zoj [1,4,7,9,13,14,15,16,143,144,145,172,173,174]∧RD zww 4 [oo 199 (oM 13),oo 200 (oM 9),oo 201 (oM 14),oo 202 (oI 81 200 201),oo 203 (oL 9 202),oo 204 (oM 15),oo 205 (oF 72 1 5),oo 206 (oI 70 205 204),oo 207 (.indexAddr 26 (.tmp 206) (.const (.int .i64 0))),oo 208 (oL 25 207),oo 209 (.convert 25 3 (.tmp 208)),oo 210 (oM 15),oo 211 (oF 72 1 5),oo 212 (oI 70 211 210),oo 213 (.indexAddr 26 (.tmp 212) (.const (.int .i64 1))),oo 214 (oL 25 213),oo 215 (.convert 25 3 (.tmp 214)),oo 216 (.build 31 #[(0,.tmp 209),(1,.tmp 215)]),oo 217 (oM 16),oo 218 (.build 50 #[(0,.tmp 203),(1,.tmp 216),(2,.tmp 217)]),oo 219 (oS 37 218),oo 220 (oA 199 219 37),oo 13 (oG 220)] [(0,1),(0,2),(1,2),(0,3),(0,4),(0,5),(1,5),(2,5),(3,5),(4,5),(0,6),(1,6),(2,6),(3,6),(4,6),(5,6),(0,7),(1,7),(2,7),(3,7),(4,7),(0,8),(1,8),(2,8),(3,8),(4,8),(0,9),(1,9),(2,9),(3,9),(4,9),(0,10),(1,10),(2,10),(3,10),(4,10),(0,11),(1,11),(2,11),(3,11),(4,11),(5,11),(6,11),(7,11),(8,11),(9,11),(10,11),(0,12),(1,12),(2,12),(3,12),(4,12),(5,12),(6,12),(7,12),(8,12),(9,12),(10,12),(11,12),(0,13),(1,13),(2,13),(3,13),(4,13),(5,13),(6,13),(7,13),(8,13),(9,13),(10,13),(0,14),(1,14),(2,14),(3,14),(4,14),(5,14),(6,14),(7,14),(8,14),(9,14),(10,14),(0,15),(1,15),(2,15),(3,15),(4,15),(5,15),(6,15),(7,15),(8,15),(9,15),(10,15),(0,16),(1,16),(2,16),(3,16),(4,16),(5,16),(6,16),(7,16),(8,16),(9,16),(10,16),(0,17),(1,17),(2,17),(3,17),(4,17),(0,18),(1,18),(2,18),(3,18),(4,18),(5,18),(6,18),(7,18),(8,18),(9,18),(10,18),(11,18),(12,18),(13,18),(14,18),(15,18),(16,18),(17,18),(0,19),(0,20)]∧RR zwv [oo 221 (oC .add 3 145 1),oo 145 (oM 221)]∧RI zjb (.seq (zxa) (.seq (.cond (.tmp 146) (.skip) (.exit 0)) (.seq (.block 1 (.seq (zw9) (.seq (.seq (zw7) (.cond (.tmp 168) (.seq (zw6) (.ret)) (.skip))) (.seq (zw5) (.seq (.seq (zw4) (.block 2 (.loop zoj))) (zww)))))) (zwv))))∧xv T 4 zjb [1,4,7,9,13,143,144,145]∧RR r4_32 [oo 222 (oF 72 1 6),oo 223 (oL 5 222),oo 224 (.convert 5 3 (.tmp 223)),oo 225 (.build 58 #[(2,.tmp 224)]),oo 19 (.alloc 58),ow 58 19 225]∧RD r4_33 4 [oo 227 (oL 58 19),oo 228 (.buildSlice 37 0 #[]),oo 229 (oM 13),oo 230 (oA 228 229 37),oo 231 (o2 21 227 230 58 37),oo 226 (oM 231),oo 232 (oX 226 0),oo 233 (oX 226 1),oo 234 (oX 226 2),oo 20 (oG 232),oo 21 (oG 233),oo 22 (oG 234)] [(0,1),(0,2),(1,2),(0,3),(6,7),(6,8),(7,8),(7,9),(8,9),(8,10)]∧RD r4_34 4 [oo 236 (oL 58 19),oo 237 (.buildSlice 37 0 #[]),oo 238 (oM 13),oo 239 (oA 237 238 37),oo 240 (oF 72 1 3),oo 241 (oL 5 240),oo 242 (.convert 5 3 (.tmp 241)),oo 243 (.call ⟨.value (.func 22),#[.tmp 236,.tmp 239,.tmp 242],#[58,37,3]⟩),oo 235 (oM 243),oo 244 (oX 235 0),oo 245 (oX 235 1),oo 23 (oG 244),oo 24 (oG 245)] [(0,1),(0,2),(1,2),(0,3),(0,4),(1,4),(2,4),(3,4),(0,5),(1,5),(2,5),(3,5),(0,6),(1,6),(2,6),(3,6),(9,10),(10,11)]∧RR r4_35 [oo 246 (oM 22),oo 247 (oC .neq 41 246 0),oo 248 (oM 247),of 249 (oM 24) 248,of 250 (oC .neq 41 249 0) 248,oo 251 (.pick (.tmp 248) (.const (.bool true)) (.tmp 250)),oo 252 (oM 251),of 253 (oM 21) 252,of 254 (oC .lss 3 253 0) 252,oo 255 (.pick (.tmp 252) (.const (.bool true)) (.tmp 254)),oo 256 (oM 255),of 257 (oM 21) 256,of 258 (oM 23) 256,of 259 (oB .gtr 3 257 258) 256,oo 260 (.pick (.tmp 256) (.const (.bool true)) (.tmp 259)),oo 261 (oM 260),of 262 (oM 20) 261,of 263 (oN 262 39) 261,of 264 (oM 13) 261,of 265 (oN 264 37) 261,of 266 (oB .gtr 3 263 265) 261,oo 267 (.pick (.tmp 261) (.const (.bool true)) (.tmp 266))]∧RR r4_36 [oo 2 (.assign (.const (.bool false)))]∧RR r4_37 [oo 25 on,oo 26 on]∧RR r4_38 [oo 27 (oi (-1)),oo 28 (oi 0)]∧RR r4_39 [oo 268 (oM 20),oo 269 (oN 268 39),oo 270 (.move (.const (.int .i64 0)))]∧RR zwt [oo 271 (oB .lss 3 270 269)]∧RR zws [oo 272 (oI 39 268 270),oo 273 (oL 3 272),oo 30 (oG 273)]∧RR zwr [oo 274 (oM 30),oo 275 (oM 27),oo 276 (oB .leq 3 274 275),oo 277 (oM 276),of 278 (oM 30) 277,of 279 (oM 13) 277,of 280 (oN 279 37) 277,of 281 (oB .geq 3 278 280) 277,oo 282 (.pick (.tmp 277) (.const (.bool true)) (.tmp 281))]∧RR zwq [oo 2 (.assign (.const (.bool false)))]∧RR zwp [oo 283 (oM 30),oo 27 (oG 283)]∧RR zwo [oo 284 (oM 28),oo 285 (oM 13),oo 286 (oM 30),oo 287 (oI 37 285 286),oo 288 (oF 50 287 2),oo 289 (oL 3 288),oo 290 (oB .add 3 284 289),oo 28 (oG 290)]∧RR zwn [oo 291 (oM 25),oo 292 (oM 4),oo 293 (oM 30),oo 294 (oI 39 292 293),oo 295 (oL 3 294),oo 296 (oS 39 295),oo 297 (oA 291 296 39),oo 25 (oG 297)]∧RR zwm [oo 298 (oC .add 3 270 1),oo 270 (oM 298)]∧RI zf0 (.seq (zwt) (.seq (.cond (.tmp 271) (.skip) (.exit 4)) (.seq (.block 5 (.seq (zws) (.seq (.seq (zwr) (.cond (.tmp 282) (.seq (zwq) (.ret)) (.skip))) (.seq (zwp) (.seq (zwo) (zwn)))))) (zwm))))∧xv T 4 zf0 [1,4,13,19,20,21,25,26,27,28,268,269,270]∧RR r4_48 [oo 299 (oM 4),oo 300 (oN 299 39),oo 301 (.move (.const (.int .i64 0)))]∧RR zwl [oo 302 (oB .lss 3 301 300)]∧RR zwj [oo 303 (oI 39 299 301),oo 304 (oL 3 303),oo 32 (oG 304)]∧RR zwi [oo 305 (oM 25),oo 306 (oM 32),oo 307 (o2 13 305 306 39 3),oo 308 (.unOp .not 4 (.tmp 307))]∧RR zwh [oo 309 (oM 26),oo 310 (oM 32),oo 311 (oS 39 310),oo 312 (oA 309 311 39),oo 26 (oG 312)]∧RR zwg [oo 313 (oC .add 3 301 1),oo 301 (oM 313)]∧RI zd5 (.seq (zwl) (.seq (.cond (.tmp 302) (.skip) (.exit 6)) (.seq (.block 7 (.seq (zwj) (.seq (zwi) (.cond (.tmp 308) (zwh) (.skip))))) (zwg))))∧xv T 4 zd5 [1,13,19,20,21,25,26,28,299,300,301]∧RD r4_54 4 [oo 315 (oL 58 19),oo 316 (.buildSlice 37 0 #[]),oo 317 (oM 13),oo 318 (oA 316 317 37),oo 319 (.buildSlice 39 0 #[]),oo 320 (oM 20),oo 321 (oA 319 320 39),oo 322 (.call ⟨.value (.func 11),#[.tmp 315,.tmp 318,.tmp 321],#[58,37,39]⟩),oo 314 (oM 322),oo 323 (oX 314 0),oo 324 (oX 314 1),oo 325 (oX 314 2),oo 33 (oG 323),oo 34 (oG 324),oo 35 (oG 325)] [(0,1),(0,2),(1,2),(0,3),(0,4),(1,4),(2,4),(3,4),(0,5),(1,5),(2,5),(3,5),(4,5),(0,6),(9,10),(9,11),(10,11),(10,12),(11,12),(11,13)]∧RR r4_55 [oo 326 (oM 35),oo 327 (oC .neq 41 326 0),oo 328 (oM 327),of 329 (oM 33) 328,of 330 (oN 329 39) 328,of 331 (oM 20) 328,of 332 (oN 331 39) 328,of 333 (oB .neq 3 330 332) 328,oo 334 (.pick (.tmp 328) (.const (.bool true)) (.tmp 333)),oo 335 (oM 334),of 336 (oM 34) 335,of 337 (oC .lss 3 336 0) 335,oo 338 (.pick (.tmp 335) (.const (.bool true)) (.tmp 337)),oo 339 (oM 338),of 340 (oM 34) 339,of 341 (oC .gtr 3 340 10000) 339,oo 342 (.pick (.tmp 339) (.const (.bool true)) (.tmp 341)),oo 343 (oM 342),of 344 (oM 21) 343,of 345 (oM 28) 343,of 346 (oF 58 19 2) 343,of 347 (oL 3 346) 343,of 348 (oM 34) 343,of 349 (oB .mul 3 347 348) 343,of 350 (oB .sub 3 345 349) 343,of 351 (oB .neq 3 344 350) 343,oo 352 (.pick (.tmp 343) (.const (.bool true)) (.tmp 351))]∧RR r4_56 [oo 2 (.assign (.const (.bool false)))]∧RR r4_57 [oo 354 (oL 72 1),oo 355 (oM 25),oo 356 (o2 14 354 355 72 39),oo 353 (oM 356),oo 357 (oX 353 0),oo 358 (oX 353 1),oo 36 (.alloc 76),ow 76 36 357,oo 37 (oG 358)]∧RR r4_58 [oo 360 (oL 76 36),oo 361 (o1 15 360 76),oo 359 (oM 361),oo 362 (oX 359 0),oo 363 (oX 359 1),oo 38 (oG 362),oo 39 (oG 363)]∧RR r4_59 [oo 364 (oM 39),oo 365 (oC .neq 41 364 0),oo 366 (oM 365),of 367 (oM 38) 366,of 368 (oN 367 73) 366,of 369 (oC .neq 3 368 1) 366,oo 370 (.pick (.tmp 366) (.const (.bool true)) (.tmp 369)),oo 371 (oM 370),of 372 (oM 37) 371,of 373 (oM 26) 371,of 374 (o2 19 372 373 39 39) 371,of 375 (.unOp .not 4 (.tmp 374)) 371,oo 376 (.pick (.tmp 371) (.const (.bool true)) (.tmp 375)),oo 377 (oM 376),of 378 (oM 38) 377,of 379 (.indexAddr 73 (.tmp 378) (.const (.int .i64 0))) 377,of 380 (oL 39 379) 377,of 381 (oM 26) 377,of 382 (o2 19 380 381 39 39) 377,of 383 (.unOp .not 4 (.tmp 382)) 377,oo 384 (.pick (.tmp 377) (.const (.bool true)) (.tmp 383))]∧RR r4_60 [oo 2 (.assign (.const (.bool false)))]∧RR r4_61 [oo 385 (oM 25),oo 386 (oN 385 39),oo 387 (oC .gtr 3 386 0)]∧RR r4_62 [oo 389 (.build 94 #[(0,.const (.string ⟨#[102,117,115,101]⟩)),(1,.const (.int .i64 3))]),oo 390 (oS 90 389),oo 391 (oM 25),oo 392 (oN 391 39),oo 393 (.build 96 #[(0,.const (.string ⟨#[102,117,115,101]⟩)),(1,.tmp 392)]),oo 394 (oS 97 393),oo 395 (o2 23 390 394 90 97),oo 388 (oM 395),oo 396 (oX 388 0),oo 397 (oX 388 1),oo 40 (oG 396),oo 41 (oG 397)]∧RR r4_63 [oo 398 (oM 41),oo 399 (oC .neq 41 398 0),oo 400 (oM 399),of 401 (oM 40) 400,of 402 (oN 401 90) 400,of 403 (oC .neq 3 402 1) 400,oo 404 (.pick (.tmp 400) (.const (.bool true)) (.tmp 403)),oo 405 (oM 404),of 406 (oM 40) 405,of 407 (.indexAddr 90 (.tmp 406) (.const (.int .i64 0))) 405,of 408 (oF 94 407 1) 405,of 409 (oL 3 408) 405,of 410 (oM 25) 405,of 411 (oN 410 39) 405,of 412 (.binOp .sub 3 (.const (.int .i64 3)) (.tmp 411) 3) 405,of 413 (oB .neq 3 409 412) 405,oo 414 (.pick (.tmp 405) (.const (.bool true)) (.tmp 413))]∧RR r4_64 [oo 2 (.assign (.const (.bool false)))]∧RR r4_65 [oo 415 (.call ⟨.value (.func 5),#[],#[]⟩),oo 2 (oG 415)]∧zf T 4 [.tmp 2] false:=by refine⟨zz T ?_,zz T ?_,zz T ?_,zz T ?_,zz T ?_,zz T ?_,zz T ?_,zz T ?_,zz T ?_,zz T ?_,zz T ?_,zz T ?_,zz T ?_,zz T ?_,zz T ?_,zz T ?_,zz T ?_,zz T ?_,zz T ?_,zz T ?_,xo T (id:=20) ?_ ?_,zz T ?_,zz T ?_,zz T ?_,zz T ?_,zz T ?_,xo T (id:=26) ?_ ?_,zz T ?_,zz T ?_,zz T ?_,zi T ?_,xk T ?_,xo T (id:=30) ?_ ?_,zz T ?_,zi T ?_,xk T ?_,zz T ?_,xo T (id:=33) ?_ ?_,xo T (id:=34) ?_ ?_,zz T ?_,zz T ?_,zz T ?_,zz T ?_,zz T ?_,zz T ?_,zz T ?_,zz T ?_,zz T ?_,zz T ?_,zz T ?_,zz T ?_,zz T ?_,zi T ?_,xk T ?_,zz T ?_,zz T ?_,zz T ?_,zz T ?_,zz T ?_,zz T ?_,zi T ?_,xk T ?_,xo T (id:=54) ?_ ?_,zz T ?_,zz T ?_,zz T ?_,zz T ?_,zz T ?_,zz T ?_,zz T ?_,zz T ?_,zz T ?_,zz T ?_,zz T ?_,zh T (F:=f4) ?_ ?_ ?_⟩<;>kernel_rfl
end Go.Den.FaT
end
