import Derived.Test.YtjiidembdmfikaaGreatDoorFaTab
import Derived.Test.YtjiidembdmfikaaGreatDoorZR
import Derived.Test.YtjiidembdmfikaaGreatDoorFaTi
set_option linter.all false
set_option maxHeartbeats 8000000
set_option maxRecDepth 100000
noncomputable section
namespace Go.Den.FaT
open Go Go.Proofs Go.Den Tryz
abbrev RR(c:Code)(os:List SO):Prop:=yow T c os
abbrev RD(c:Code)(f:Nat)(os:List SO)(ps:List (Nat×Nat)):Prop:=yoy T c f os ps
abbrev RI(r c:Code):Prop:=yox T r c
@[go_sem]theorem fr33:xd T 33 false none false∧zf T 33 3:=by refine⟨⟨?_,?_,?_⟩,zh T (F:=f33) ?_ ?_⟩<;>kernel_rfl
@[go_sem]theorem fr89:xd T 89 false none false∧zf T 89 3:=by refine⟨⟨?_,?_,?_⟩,zh T (F:=f89) ?_ ?_⟩<;>kernel_rfl
@[go_sem]theorem fr96:xd T 96 false none false∧zf T 96 3:=by refine⟨⟨?_,?_,?_⟩,zh T (F:=f96) ?_ ?_⟩<;>kernel_rfl
@[go_sem]theorem fr97:xd T 97 false none false∧zf T 97 3:=by refine⟨⟨?_,?_,?_⟩,zh T (F:=f97) ?_ ?_⟩<;>kernel_rfl
@[go_sem]theorem fr98:xd T 98 false none false∧zf T 98 3:=by refine⟨⟨?_,?_,?_⟩,zh T (F:=f98) ?_ ?_⟩<;>kernel_rfl
def zw2:=nv 2 f33
def zw1:=nv 12 f33
def zws:=nv 26 f33
def zwm:=nv 108 f33
def zwl:=nv 14 f33
def zwk:=nv 60 f33
def zfx:=nv 244 f33
def zwj:=nv 976 f33
def zwi:=nv 3912 f33
def zwh:=nv 15652 f33
def zw0:=nv 31306 f33
def zwz:=nv 125228 f33
def zwy:=nv 15654 f33
def zi3:=nv 62620 f33
def zwx:=nv 250480 f33
def zwv:=nv 1001928 f33
def zwu:=nv 2003858 f33
def zwt:=nv 8015436 f33
def zww:=nv 250483 f33
def zlb:=nv 979 f33
def zgw:=nv 124 f33
def zgv:=nv 250 f33
def zgu:=nv 1004 f33
def zgt:=nv 252 f33
def zd3:=nv 1012 f33
def zwr:=nv 4048 f33
def zwp:=nv 16200 f33
def zwo:=nv 32402 f33
def zwn:=nv 129612 f33
def zwq:=nv 4051 f33
def zem:=nv 254 f33
theorem xcl:xc T 33 121 (.seq (zw2) (.seq (.seq (zw1) (.seq (zws) (.cond (.tmp 26) (.seq (zwm) (.ret)) (.skip)))) (.seq (zwl) (.seq (.seq (zwk) (.block 0 (.loop zfx))) (.seq (.seq (zgw) (.seq (zgv) (.cond (.tmp 86) (.seq (zgu) (.ret)) (.skip)))) (.seq (.seq (zgt) (.block 4 (.loop zd3))) (.seq (zem) (.ret)))))))):=zk T (F:=f33) (by kernel_rfl) (by kernel_rfl) (by kernel_rfl)
@[go_sem↓]theorem run33:RR zw2 [oo 1 (.box 34 (.tmp 0)),oo 2 (oi 0)]∧RD zw1 33 [oo 13 (oF 34 1 0),oo 14 (oL 31 13),oo 15 (oN 14 31),oo 16 (oC .eql 3 15 0),oo 17 (.call ⟨.value (.func 96),#[.tmp 16,.const (.int .i64 12)],#[4,3]⟩),oo 18 (oF 34 1 0),oo 19 (oL 31 18),oo 20 (oN 19 31),oo 21 (oC .gtr 3 20 8),oo 22 (.call ⟨.value (.func 96),#[.tmp 21,.const (.int .i64 5)],#[4,3]⟩),oo 23 (.buildSlice 35 2 #[(0,.tmp 17),(1,.tmp 22)]),oo 24 (o1 89 23 35),oo 3 (oG 24)] [(0,5),(1,5),(2,5),(3,5),(4,5),(0,6),(1,6),(2,6),(3,6),(4,6),(0,7),(1,7),(2,7),(3,7),(4,7),(0,8),(1,8),(2,8),(3,8),(4,8)]∧RR zws [oo 25 (oM 3),oo 26 (oC .neq 3 25 0)]∧RR zwm [oo 27 (oM 3),oo 2 (oG 27)]∧RR zwl [oo 28 (oF 34 1 0),oo 29 (oL 31 28),oo 30 (.indexAddr 31 (.tmp 29) (.const (.int .i64 0))),oo 31 (oL 35 30),oo 32 (oN 31 35),oo 4 (oG 32)]∧RR zwk [oo 5 (oi 0)]∧RR zwj [oo 33 (oM 5),oo 34 (oF 34 1 0),oo 35 (oL 31 34),oo 36 (oN 35 31),oo 37 (oB .lss 3 33 36)]∧RR zwi [oo 40 (oF 34 1 0),oo 41 (oL 31 40),oo 42 (oM 5),oo 43 (oI 31 41 42),oo 44 (oL 35 43),oo 6 (oG 44)]∧RR zwh [oo 45 (oM 6),oo 46 (oN 45 35),oo 47 (oC .eql 3 46 0),oo 48 (.call ⟨.value (.func 96),#[.tmp 47,.const (.int .i64 12)],#[4,3]⟩),oo 49 (oM 6),oo 50 (oN 49 35),oo 51 (oC .gtr 3 50 8),oo 52 (.call ⟨.value (.func 96),#[.tmp 51,.const (.int .i64 5)],#[4,3]⟩),oo 53 (oM 6),oo 54 (oN 53 35),oo 55 (oM 4),oo 56 (oB .neq 3 54 55),oo 57 (.call ⟨.value (.func 96),#[.tmp 56,.const (.int .i64 2)],#[4,3]⟩),oo 58 (.buildSlice 35 3 #[(0,.tmp 48),(1,.tmp 52),(2,.tmp 57)]),oo 59 (o1 89 58 35),oo 7 (oG 59)]∧RR zw0 [oo 60 (oM 7),oo 61 (oC .neq 3 60 0)]∧RR zwz [oo 62 (oM 7),oo 2 (oG 62)]∧RR zwy [oo 8 (oi 0)]∧RR zwx [oo 63 (oM 8),oo 64 (oM 6),oo 65 (oN 64 35),oo 66 (oB .lss 3 63 65)]∧RR zwv [oo 69 (oM 6),oo 70 (oM 8),oo 71 (oI 35 69 70),oo 72 (oL 3 71),oo 73 (o1 97 72 3),oo 9 (oG 73)]∧RR zwu [oo 74 (oM 9),oo 75 (oC .neq 3 74 0)]∧RR zwt [oo 76 (oM 9),oo 2 (oG 76)]∧RR zww [oo 67 (oM 8),oo 68 (oC .add 3 67 1),oo 8 (oG 68)]∧RI zi3 (.seq (.seq (zwx) (.cond (.tmp 66) (.skip) (.exit 2))) (.seq (.block 3 (.seq (zwv) (.seq (zwu) (.cond (.tmp 75) (.seq (zwt) (.ret)) (.skip))))) (zww)))∧ze T 33 zi3 [1,4,5,6,8]∧RR zlb [oo 38 (oM 5),oo 39 (oC .add 3 38 1),oo 5 (oG 39)]∧RI zfx (.seq (.seq (zwj) (.cond (.tmp 37) (.skip) (.exit 0))) (.seq (.block 1 (.seq (zwi) (.seq (.seq (zwh) (.seq (zw0) (.cond (.tmp 61) (.seq (zwz) (.ret)) (.skip)))) (.seq (zwy) (.block 2 (.loop zi3)))))) (zlb)))∧ze T 33 zfx [1,4,5]∧RD zgw 33 [oo 77 (oF 34 1 1),oo 78 (oL 3 77),oo 79 (o1 97 78 3),oo 80 (oF 34 1 2),oo 81 (oL 32 80),oo 82 (o1 98 81 32),oo 83 (.buildSlice 35 2 #[(0,.tmp 79),(1,.tmp 82)]),oo 84 (o1 89 83 35),oo 10 (oG 84)] [(0,3),(1,3),(2,3),(0,4),(1,4),(2,4)]∧RR zgv [oo 85 (oM 10),oo 86 (oC .neq 3 85 0)]∧RR zgu [oo 87 (oM 10),oo 2 (oG 87)]∧RR zgt [oo 11 (oi 0)]∧RR zwr [oo 88 (oM 11),oo 89 (oF 34 1 2),oo 90 (oL 32 89),oo 91 (oN 90 32),oo 92 (oB .lss 3 88 91)]∧RD zwp 33 [oo 95 (oF 34 1 2),oo 96 (oL 32 95),oo 97 (oM 11),oo 98 (oI 32 96 97),oo 99 (oF 54 98 1),oo 100 (oL 3 99),oo 101 (oF 34 1 0),oo 102 (oL 31 101),oo 103 (oN 102 31),oo 104 (oB .geq 3 100 103),oo 105 (.call ⟨.value (.func 96),#[.tmp 104,.const (.int .i64 10)],#[4,3]⟩),oo 106 (oF 34 1 2),oo 107 (oL 32 106),oo 108 (oM 11),oo 109 (oI 32 107 108),oo 110 (oF 54 109 2),oo 111 (oL 52 110),oo 112 (oN 111 52),oo 113 (oM 4),oo 114 (oB .neq 3 112 113),oo 115 (.call ⟨.value (.func 96),#[.tmp 114,.const (.int .i64 2)],#[4,3]⟩),oo 116 (.buildSlice 35 2 #[(0,.tmp 105),(1,.tmp 115)]),oo 117 (o1 89 116 35),oo 12 (oG 117)] [(0,2),(1,2),(0,6),(1,6),(2,6),(3,6),(4,6),(5,6),(0,7),(1,7),(2,7),(3,7),(4,7),(5,7),(0,8),(1,8),(2,8),(3,8),(4,8),(5,8),(0,11),(1,11),(2,11),(3,11),(4,11),(5,11),(6,11),(7,11),(8,11),(9,11),(10,11),(0,12),(1,12),(2,12),(3,12),(4,12),(5,12),(6,12),(7,12),(8,12),(9,12),(10,12),(0,13),(1,13),(2,13),(3,13),(4,13),(5,13),(6,13),(7,13),(8,13),(9,13),(10,13),(11,13),(12,13),(0,14),(1,14),(2,14),(3,14),(4,14),(5,14),(6,14),(7,14),(8,14),(9,14),(10,14),(0,15),(1,15),(2,15),(3,15),(4,15),(5,15),(6,15),(7,15),(8,15),(9,15),(10,15),(0,16),(1,16),(2,16),(3,16),(4,16),(5,16),(6,16),(7,16),(8,16),(9,16),(10,16),(0,17),(1,17),(2,17),(3,17),(4,17),(5,17),(6,17),(7,17),(8,17),(9,17),(10,17),(0,18),(1,18),(2,18),(3,18),(4,18),(5,18),(6,18),(7,18),(8,18),(9,18),(10,18),(11,18),(12,18),(13,18),(14,18),(15,18),(16,18),(17,18),(0,19),(1,19),(2,19),(3,19),(4,19),(5,19),(6,19),(7,19),(8,19),(9,19),(10,19)]∧RR zwo [oo 118 (oM 12),oo 119 (oC .neq 3 118 0)]∧RR zwn [oo 120 (oM 12),oo 2 (oG 120)]∧RR zwq [oo 93 (oM 11),oo 94 (oC .add 3 93 1),oo 11 (oG 94)]∧RI zd3 (.seq (.seq (zwr) (.cond (.tmp 92) (.skip) (.exit 4))) (.seq (.block 5 (.seq (zwp) (.seq (zwo) (.cond (.tmp 119) (.seq (zwn) (.ret)) (.skip))))) (zwq)))∧ze T 33 zd3 [1,4,11]∧RR zem [oo 2 (oi 0)]∧zw T 33 [.tmp 2] false:=by refine⟨zz T ?_,xv T (id:=1) ?_ ?_,zz T ?_,zz T ?_,zz T ?_,zz T ?_,zz T ?_,zz T ?_,zz T ?_,zz T ?_,zz T ?_,zz T ?_,zz T ?_,zz T ?_,zz T ?_,zz T ?_,zz T ?_,zr T ?_,zo T ?_,zz T ?_,zr T ?_,zo T ?_,xv T (id:=18) ?_ ?_,zz T ?_,zz T ?_,zz T ?_,zz T ?_,xv T (id:=24) ?_ ?_,zz T ?_,zz T ?_,zz T ?_,zr T ?_,zo T ?_,zz T ?_,zy T (F:=f33) ?_ ?_ ?_⟩<;>kernel_rfl
@[go_sem]theorem fr59:xd T 59 false none false∧zf T 59 39:=by refine⟨⟨?_,?_,?_⟩,zh T (F:=f59) ?_ ?_⟩<;>kernel_rfl
@[go_sem]theorem fr60:xd T 60 false none false∧zf T 60 39:=by refine⟨⟨?_,?_,?_⟩,zh T (F:=f60) ?_ ?_⟩<;>kernel_rfl
@[go_sem]theorem fr63:xd T 63 false none false∧zf T 63 39:=by refine⟨⟨?_,?_,?_⟩,zh T (F:=f63) ?_ ?_⟩<;>kernel_rfl
@[go_sem]theorem fr111:xd T 111 false none false∧zf T 111 39:=by refine⟨⟨?_,?_,?_⟩,zh T (F:=f111) ?_ ?_⟩<;>kernel_rfl
@[go_sem]theorem fr124:xd T 124 false none false∧zf T 124 39:=by refine⟨⟨?_,?_,?_⟩,zh T (F:=f124) ?_ ?_⟩<;>kernel_rfl
@[go_sem]theorem fr125:xd T 125 false none false∧zf T 125 39:=by refine⟨⟨?_,?_,?_⟩,zh T (F:=f125) ?_ ?_⟩<;>kernel_rfl
@[go_sem]theorem fr126:xd T 126 false none false∧zf T 126 148:=by refine⟨⟨?_,?_,?_⟩,zh T (F:=f126) ?_ ?_⟩<;>kernel_rfl
@[go_sem]theorem fr127:xd T 127 false none false∧zf T 127 39:=by refine⟨⟨?_,?_,?_⟩,zh T (F:=f127) ?_ ?_⟩<;>kernel_rfl
@[go_sem]theorem fr128:xd T 128 false none false∧zf T 128 148:=by refine⟨⟨?_,?_,?_⟩,zh T (F:=f128) ?_ ?_⟩<;>kernel_rfl
def zun:=nv 2 f59
def zum:=nv 12 f59
def zul:=nv 26 f59
def zuk:=nv 108 f59
def zuj:=nv 14 f59
def zui:=nv 30 f59
def zuh:=nv 62 f59
theorem xcd:xc T 59 33 (.seq (zun) (.seq (.seq (zum) (.seq (zul) (.cond (.tmp 11) (.seq (zuk) (.ret)) (.skip)))) (.seq (zuj) (.seq (zui) (.seq (zuh) (.ret)))))):=zk T (F:=f59) (by kernel_rfl) (by kernel_rfl) (by kernel_rfl)
@[go_sem↓]theorem run59:RR zun [oo 1 (.box 44 (.tmp 0)),oo 2 (oi 0)]∧RR zum [oo 6 (oF 44 1 0),oo 7 (oL 31 6),oo 8 (oN 7 31),oo 9 (.call ⟨.value (.func 111),#[.tmp 8,.const (.int .i64 8)],#[3,3]⟩),oo 3 (oG 9)]∧RR zul [oo 10 (oM 3),oo 11 (oC .neq 39 10 0)]∧RR zuk [oo 12 (oM 3),oo 2 (oG 12)]∧RR zuj [oo 13 (.makeFunc (.func 124) #[] #[.tmp 1]),oo 4 (oG 13)]∧RR zui [oo 14 (.makeFunc (.func 125) #[] #[.tmp 1]),oo 5 (oG 14)]∧RD zuh 59 [oo 15 (oF 44 1 0),oo 16 (oL 31 15),oo 17 (oM 4),oo 18 (o2 126 16 17 31 162),oo 19 (o1 60 18 148),oo 20 (oF 44 1 1),oo 21 (oL 3 20),oo 22 (o1 63 21 3),oo 23 (oF 44 1 2),oo 24 (oL 42 23),oo 25 (o1 127 24 42),oo 26 (oF 44 1 2),oo 27 (oL 42 26),oo 28 (oM 5),oo 29 (o2 128 27 28 42 218),oo 30 (o1 60 29 148),oo 31 (.buildSlice 148 4 #[(0,.tmp 19),(1,.tmp 22),(2,.tmp 25),(3,.tmp 30)]),oo 32 (o1 60 31 148),oo 2 (oG 32)] [(0,2),(1,2),(0,5),(1,5),(2,5),(3,5),(4,5),(0,6),(1,6),(2,6),(3,6),(4,6),(0,8),(1,8),(2,8),(3,8),(4,8),(5,8),(6,8),(7,8),(0,9),(1,9),(2,9),(3,9),(4,9),(5,9),(6,9),(7,9),(0,11),(1,11),(2,11),(3,11),(4,11),(5,11),(6,11),(7,11),(8,11),(9,11),(10,11),(0,12),(1,12),(2,12),(3,12),(4,12),(5,12),(6,12),(7,12),(8,12),(9,12),(10,12),(0,13),(1,13),(2,13),(3,13),(4,13),(5,13),(6,13),(7,13),(8,13),(9,13),(10,13),(11,13),(12,13)]∧zw T 59 [.tmp 2] false:=by refine⟨zz T ?_,zz T ?_,zz T ?_,zz T ?_,zz T ?_,zz T ?_,xv T (id:=6) ?_ ?_,zy T (F:=f59) ?_ ?_ ?_⟩<;>kernel_rfl
def zrj:=nv 2 f96
def zri:=nv 12 f96
def zrh:=nv 52 f96
def zrg:=nv 14 f96
theorem xbn:xc T 96 7 (.seq (zrj) (.seq (.seq (zri) (.cond (.tmp 5) (.seq (zrh) (.ret)) (.skip))) (.seq (zrg) (.ret)))):=zk T (F:=f96) (by kernel_rfl) (by kernel_rfl) (by kernel_rfl)
@[go_sem↓]theorem run96:RR zrj [oo 4 (oi 0)]∧RR zri [oo 5 (oM 0)]∧RR zrh [oo 6 (oM 1),oo 4 (oG 6)]∧RR zrg [oo 4 (oi 0)]∧zw T 96 [.tmp 4] false:=by refine⟨zz T ?_,zz T ?_,zz T ?_,zz T ?_,zy T (F:=f96) ?_ ?_ ?_⟩<;>kernel_rfl
@[go_sem]theorem fr36:xd T 36 false none false∧zf T 36 34:=by refine⟨⟨?_,?_,?_⟩,zh T (F:=f36) ?_ ?_⟩<;>kernel_rfl
@[go_sem]theorem fr99:xd T 99 false none false∧zf T 99 32:=by refine⟨⟨?_,?_,?_⟩,zh T (F:=f99) ?_ ?_⟩<;>kernel_rfl
def zwg:=nv 2 f36
def zwf:=nv 6 f36
def zwe:=nv 28 f36
def zi2:=nv 116 f36
def zwd:=nv 464 f36
def zwb:=nv 932 f36
def zwc:=nv 467 f36
def zla:=nv 30 f36
def zk9:=nv 62 f36
theorem xck:xc T 36 32 (.seq (zwg) (.seq (zwf) (.seq (.seq (zwe) (.block 0 (.loop zi2))) (.seq (zla) (.seq (zk9) (.ret)))))):=zk T (F:=f36) (by kernel_rfl) (by kernel_rfl) (by kernel_rfl)
@[go_sem↓]theorem run36:RR zwg [oo 1 (.box 34 (.tmp 0)),oo 2 (.alloc 34)]∧RR zwf [oo 5 (oF 34 1 1),oo 6 (oL 3 5),oo 7 (.build 34 #[(1,.tmp 6)]),oo 3 (.alloc 34),ow 34 3 7]∧RR zwe [oo 4 (oi 0)]∧RR zwd [oo 8 (oM 4),oo 9 (oF 34 1 0),oo 10 (oL 31 9),oo 11 (oN 10 31),oo 12 (oB .lss 3 8 11)]∧RD zwb 36 [oo 15 (oF 34 3 0),oo 16 (oL 31 15),oo 17 (.buildSlice 35 0 #[]),oo 18 (oF 34 1 0),oo 19 (oL 31 18),oo 20 (oM 4),oo 21 (oI 31 19 20),oo 22 (oL 35 21),oo 23 (oA 17 22 35),oo 24 (oS 31 23),oo 25 (oA 16 24 31),oo 26 (oF 34 3 0),ow 31 26 25] [(0,2),(1,2),(0,3),(1,3),(2,3),(0,4),(1,4),(2,4),(0,5),(1,5),(2,5),(3,5),(4,5),(0,6),(1,6),(2,6),(0,7),(1,7),(2,7),(0,8),(1,8),(0,9),(1,9)]∧RR zwc [oo 13 (oM 4),oo 14 (oC .add 3 13 1),oo 4 (oG 14)]∧RI zi2 (.seq (.seq (zwd) (.cond (.tmp 12) (.skip) (.exit 0))) (.seq (.block 1 (zwb)) (zwc)))∧ze T 36 zi2 [1,2,3,4]∧RR zla [oo 27 (oF 34 1 2),oo 28 (oL 32 27),oo 29 (o1 99 28 32),oo 30 (oF 34 3 2),ow 32 30 29]∧RR zk9 [oo 31 (oL 34 3),ow 34 2 31]∧zw T 36 [.cell 2 34] false:=by refine⟨zz T ?_,zz T ?_,zz T ?_,zz T ?_,xv T (id:=5) ?_ ?_,zz T ?_,zr T ?_,zo T ?_,zz T ?_,zz T ?_,zy T (F:=f36) ?_ ?_ ?_⟩<;>kernel_rfl
@[go_sem]theorem fr25:xd T 25 false none false∧zf T 25 4:=by refine⟨⟨?_,?_,?_⟩,zh T (F:=f25) ?_ ?_⟩<;>kernel_rfl
def zyj:=nv 2 f25
def zyi:=nv 12 f25
def zyh:=nv 52 f25
def zyg:=nv 28 f25
def zi6:=nv 116 f25
def zyf:=nv 464 f25
def zyd:=nv 1864 f25
def zyc:=nv 7460 f25
def zye:=nv 467 f25
def zle:=nv 30 f25
theorem xcs:xc T 25 26 (.seq (zyj) (.seq (.seq (zyi) (.cond (.tmp 10) (.seq (zyh) (.ret)) (.skip))) (.seq (.seq (zyg) (.block 0 (.loop zi6))) (.seq (zle) (.ret))))):=zk T (F:=f25) (by kernel_rfl) (by kernel_rfl) (by kernel_rfl)
@[go_sem↓]theorem run25:RR zyj [oo 4 (.assign (.const (.bool false)))]∧RR zyi [oo 6 (oM 0),oo 7 (oN 6 35),oo 8 (oM 1),oo 9 (oN 8 35),oo 10 (oB .neq 3 7 9)]∧RR zyh [oo 4 (.assign (.const (.bool false)))]∧RR zyg [oo 5 (oi 0)]∧RR zyf [oo 11 (oM 5),oo 12 (oM 0),oo 13 (oN 12 35),oo 14 (oB .lss 3 11 13)]∧RD zyd 25 [oo 17 (oM 0),oo 18 (oM 5),oo 19 (oI 35 17 18),oo 20 (oL 3 19),oo 21 (oM 1),oo 22 (oM 5),oo 23 (oI 35 21 22),oo 24 (oL 3 23),oo 25 (oB .neq 3 20 24)] [(0,1),(0,4),(1,4),(2,4),(3,4),(0,5),(1,5),(2,5),(3,5),(4,5),(0,6),(1,6),(2,6),(3,6),(0,7),(1,7),(2,7),(3,7)]∧RR zyc [oo 4 (.assign (.const (.bool false)))]∧RR zye [oo 15 (oM 5),oo 16 (oC .add 3 15 1),oo 5 (oG 16)]∧RI zi6 (.seq (.seq (zyf) (.cond (.tmp 14) (.skip) (.exit 0))) (.seq (.block 1 (.seq (zyd) (.cond (.tmp 25) (.seq (zyc) (.ret)) (.skip)))) (zye)))∧ze T 25 zi6 [0,1,5]∧RR zle [oo 4 (.assign (.const (.bool true)))]∧zw T 25 [.tmp 4] false:=by refine⟨zz T ?_,zz T ?_,zz T ?_,zz T ?_,zz T ?_,xv T (id:=6) ?_ ?_,zz T ?_,zz T ?_,zr T ?_,zo T ?_,zz T ?_,zy T (F:=f25) ?_ ?_ ?_⟩<;>kernel_rfl
@[go_sem]theorem fr38:xd T 38 false none false∧zf T 38 3:=by refine⟨⟨?_,?_,?_⟩,zh T (F:=f38) ?_ ?_⟩<;>kernel_rfl
def zwa:=nv 2 f38
def zv9:=nv 6 f38
theorem xcj:xc T 38 16 (.seq (zwa) (.seq (zv9) (.ret))):=zk T (F:=f38) (by kernel_rfl) (by kernel_rfl) (by kernel_rfl)
@[go_sem↓]theorem run38:RR zwa [oo 6 (oi 0)]∧RR zv9 [oo 7 (oM 0),oo 8 (oM 1),oo 9 (oB .lss 3 7 8),oo 10 (oM 9),of 11 (oM 0) 10,of 12 (oM 2) 10,of 13 (oB .gtr 3 11 12) 10,oo 14 (.pick (.tmp 10) (.const (.bool true)) (.tmp 13)),oo 15 (.call ⟨.value (.func 96),#[.tmp 14,.const (.int .i64 3)],#[4,3]⟩),oo 6 (oG 15)]∧zw T 38 [.tmp 6] false:=by refine⟨zz T ?_,zz T ?_,zy T (F:=f38) ?_ ?_ ?_⟩<;>kernel_rfl
@[go_sem]theorem fr171:xd T 171 false none false∧zf T 171 3:=by refine⟨⟨?_,?_,?_⟩,zh T (F:=f171) ?_ ?_⟩<;>kernel_rfl
@[go_sem]theorem fr186:xd T 186 false none false∧zf T 186 35:=by refine⟨⟨?_,?_,?_⟩,zh T (F:=f186) ?_ ?_⟩<;>kernel_rfl
@[go_sem]theorem fr218:xd T 218 false none false∧zf T 218 35:=by refine⟨⟨?_,?_,?_⟩,zh T (F:=f218) ?_ ?_⟩<;>kernel_rfl
@[go_sem]theorem fr219:xd T 219 false none false∧zf T 219 3:=by refine⟨⟨?_,?_,?_⟩,zh T (F:=f219) ?_ ?_⟩<;>kernel_rfl
def yc8:=nv 2 f186
def yc7:=nv 6 f186
def yc6:=nv 28 f186
def zjf:=nv 116 f186
def yc5:=nv 232 f186
def yc4:=nv 3736 f186
def yc3:=nv 3737 f186
def yc2:=nv 935 f186
def zln:=nv 30 f186
theorem xde:xc T 186 23 (.seq (yc8) (.seq (yc7) (.seq (.seq (yc6) (.block 0 (.loop zjf))) (.seq (zln) (.ret))))):=zk T (F:=f186) (by kernel_rfl) (by kernel_rfl) (by kernel_rfl)
@[go_sem↓]theorem run186:RR yc8 [oo 1 (.box 44 (.tmp 0)),oo 2 on]∧RR yc7 [oo 3 on]∧RR yc6 [oo 5 (oF 44 1 0),oo 6 (oL 31 5),oo 7 (.indexAddr 31 (.tmp 6) (.const (.int .i64 0))),oo 8 (oL 35 7),oo 9 (oN 8 35),oo 10 (.move (.const (.int .i64 0)))]∧RR yc5 [oo 11 (oB .lss 3 10 9)]∧RR yc4 [oo 12 (oM 10),oo 4 (.alloc 3),ow 3 4 12]∧RR yc3 [oo 13 (oM 3),oo 14 (oF 44 1 0),oo 15 (oL 31 14),oo 16 (.makeFunc (.func 219) #[] #[.tmp 4]),oo 17 (o2 218 15 16 31 183),oo 18 (o1 171 17 35),oo 19 (oS 35 18),oo 20 (oA 13 19 35),oo 3 (oG 20)]∧RR yc2 [oo 21 (oC .add 3 10 1),oo 10 (oM 21)]∧RI zjf (.seq (yc5) (.seq (.cond (.tmp 11) (.skip) (.exit 0)) (.seq (.block 1 (.seq (yc4) (yc3))) (yc2))))∧ze T 186 zjf [1,3,9,10]∧RR zln [oo 22 (oM 3),oo 2 (oG 22)]∧zw T 186 [.tmp 2] false:=by refine⟨zz T ?_,zz T ?_,zz T ?_,zz T ?_,zz T ?_,zz T ?_,zz T ?_,zr T ?_,zo T ?_,zz T ?_,zy T (F:=f186) ?_ ?_ ?_⟩<;>kernel_rfl
@[go_sem]theorem fr145:xd T 145 false none false∧zf T 145 31:=by refine⟨⟨?_,?_,?_⟩,zh T (F:=f145) ?_ ?_⟩<;>kernel_rfl
@[go_sem]theorem fr187:xd T 187 false none false∧zf T 187 31:=by refine⟨⟨?_,?_,?_⟩,zh T (F:=f187) ?_ ?_⟩<;>kernel_rfl
@[go_sem]theorem fr188:xd T 188 false none false∧zf T 188 35:=by refine⟨⟨?_,?_,?_⟩,zh T (F:=f188) ?_ ?_⟩<;>kernel_rfl
def yf8:=nv 2 f145
def yf7:=nv 6 f145
def yf6:=nv 14 f145
theorem xdx:xc T 145 10 (.seq (yf8) (.seq (yf7) (.seq (yf6) (.ret)))):=zk T (F:=f145) (by kernel_rfl) (by kernel_rfl) (by kernel_rfl)
@[go_sem↓]theorem run145:RR yf8 [oo 1 (.box 44 (.tmp 0)),oo 2 on]∧RR yf7 [oo 4 (oL 44 1),oo 5 (o1 186 4 44),oo 3 (.alloc 35),ow 35 3 5]∧RR yf6 [oo 6 (oF 44 1 0),oo 7 (oL 31 6),oo 8 (.makeFunc (.func 188) #[] #[.tmp 3]),oo 9 (o2 187 7 8 31 153),oo 2 (oG 9)]∧zw T 145 [.tmp 2] false:=by refine⟨zz T ?_,zz T ?_,zz T ?_,zy T (F:=f145) ?_ ?_ ?_⟩<;>kernel_rfl
def zrp:=nv 2 f89
def zro:=nv 12 f89
def ziu:=nv 52 f89
def zrn:=nv 208 f89
def zrl:=nv 840 f89
def zrk:=nv 3364 f89
def zrm:=nv 211 f89
def zk2:=nv 14 f89
theorem xbp:xc T 89 19 (.seq (zrp) (.seq (.seq (zro) (.block 0 (.loop ziu))) (.seq (zk2) (.ret)))):=zk T (F:=f89) (by kernel_rfl) (by kernel_rfl) (by kernel_rfl)
@[go_sem↓]theorem run89:RR zrp [oo 2 (oi 0)]∧RR zro [oo 3 (oi 0)]∧RR zrn [oo 4 (oM 3),oo 5 (oM 0),oo 6 (oN 5 35),oo 7 (oB .lss 3 4 6)]∧RR zrl [oo 10 (oM 0),oo 11 (oM 3),oo 12 (oI 35 10 11),oo 13 (oL 3 12),oo 14 (oC .neq 3 13 0)]∧RR zrk [oo 15 (oM 0),oo 16 (oM 3),oo 17 (oI 35 15 16),oo 18 (oL 3 17),oo 2 (oG 18)]∧RR zrm [oo 8 (oM 3),oo 9 (oC .add 3 8 1),oo 3 (oG 9)]∧RI ziu (.seq (.seq (zrn) (.cond (.tmp 7) (.skip) (.exit 0))) (.seq (.block 1 (.seq (zrl) (.cond (.tmp 14) (.seq (zrk) (.ret)) (.skip)))) (zrm)))∧ze T 89 ziu [0,3]∧RR zk2 [oo 2 (oi 0)]∧zw T 89 [.tmp 2] false:=by refine⟨zz T ?_,zz T ?_,zz T ?_,zz T ?_,zz T ?_,zz T ?_,zr T ?_,zo T ?_,zz T ?_,zy T (F:=f89) ?_ ?_ ?_⟩<;>kernel_rfl
def zrf:=nv 2 f97
def zre:=nv 6 f97
theorem xbm:xc T 97 5 (.seq (zrf) (.seq (zre) (.ret))):=zk T (F:=f97) (by kernel_rfl) (by kernel_rfl) (by kernel_rfl)
@[go_sem↓]theorem run97:RR zrf [oo 2 (oi 0)]∧RR zre [oo 3 (oM 0),oo 4 (.call ⟨.value (.func 38),#[.tmp 3,.const (.int .i64 0),.const (.int .i64 1000000)],#[3,3,3]⟩),oo 2 (oG 4)]∧zw T 97 [.tmp 2] false:=by refine⟨zz T ?_,zz T ?_,zy T (F:=f97) ?_ ?_ ?_⟩<;>kernel_rfl
@[go_sem]theorem fr158:xd T 158 false none false∧zf T 158 3:=by refine⟨⟨?_,?_,?_⟩,zh T (F:=f158) ?_ ?_⟩<;>kernel_rfl
@[go_sem]theorem fr159:xd T 159 false none false∧zf T 159 3:=by refine⟨⟨?_,?_,?_⟩,zh T (F:=f159) ?_ ?_⟩<;>kernel_rfl
@[go_sem]theorem fr160:xd T 160 false none false∧zf T 160 3:=by refine⟨⟨?_,?_,?_⟩,zh T (F:=f160) ?_ ?_⟩<;>kernel_rfl
def zrd:=nv 2 f98
def zrc:=nv 12 f98
def zrb:=nv 52 f98
def zra:=nv 28 f98
def zit:=nv 116 f98
def zq9:=nv 464 f98
def zq7:=nv 1864 f98
def zq6:=nv 3730 f98
def zq5:=nv 7462 f98
def zq4:=nv 29852 f98
def zq8:=nv 467 f98
def zk1:=nv 30 f98
theorem xbl:xc T 98 51 (.seq (zrd) (.seq (.seq (zrc) (.cond (.tmp 8) (.seq (zrb) (.ret)) (.skip))) (.seq (.seq (zra) (.block 0 (.loop zit))) (.seq (zk1) (.ret))))):=zk T (F:=f98) (by kernel_rfl) (by kernel_rfl) (by kernel_rfl)
@[go_sem↓]theorem run98:RR zrd [oo 2 (oi 0)]∧RR zrc [oo 6 (oM 0),oo 7 (oN 6 32),oo 8 (oC .gtr 3 7 8)]∧RR zrb [oo 2 (oi 5)]∧RR zra [oo 3 (oi 0)]∧RR zq9 [oo 9 (oM 3),oo 10 (oM 0),oo 11 (oN 10 32),oo 12 (oB .lss 3 9 11)]∧RR zq7 [oo 15 (oM 0),oo 16 (oM 3),oo 17 (oI 32 15 16),oo 18 (oL 54 17),oo 4 (.alloc 54),ow 54 4 18]∧RD zq6 98 [oo 19 (oF 54 4 0),oo 20 (oL 9 19),oo 21 (o1 158 20 9),oo 22 (oM 0),oo 23 (oM 3),oo 24 (.slice 32 (.tmp 22) none (some (.tmp 23)) none),oo 25 (oF 54 4 0),oo 26 (oL 9 25),oo 27 (o2 159 24 26 32 9),oo 28 (oC .geq 3 27 0),oo 29 (.call ⟨.value (.func 96),#[.tmp 28,.const (.int .i64 9)],#[4,3]⟩),oo 30 (oF 54 4 1),oo 31 (oL 3 30),oo 32 (.call ⟨.value (.func 38),#[.tmp 31,.const (.int .i64 0),.const (.int .i64 7)],#[3,3,3]⟩),oo 33 (oF 54 4 2),oo 34 (oL 52 33),oo 35 (oN 34 52),oo 36 (oC .eql 3 35 0),oo 37 (.call ⟨.value (.func 96),#[.tmp 36,.const (.int .i64 12)],#[4,3]⟩),oo 38 (oF 54 4 2),oo 39 (oL 52 38),oo 40 (oN 39 52),oo 41 (oC .gtr 3 40 8),oo 42 (.call ⟨.value (.func 96),#[.tmp 41,.const (.int .i64 5)],#[4,3]⟩),oo 43 (oF 54 4 2),oo 44 (oL 52 43),oo 45 (o1 160 44 52),oo 46 (.buildSlice 35 6 #[(0,.tmp 21),(1,.tmp 29),(2,.tmp 32),(3,.tmp 37),(4,.tmp 42),(5,.tmp 45)]),oo 47 (o1 89 46 35),oo 5 (oG 47)] [(0,3),(1,3),(2,3),(0,4),(1,4),(2,4),(3,4),(0,5),(1,5),(2,5),(0,6),(1,6),(2,6),(3,6),(4,6),(5,6),(0,7),(1,7),(2,7),(3,7),(4,7),(5,7),(0,11),(1,11),(2,11),(3,11),(4,11),(5,11),(6,11),(7,11),(8,11),(9,11),(10,11),(0,12),(1,12),(2,12),(3,12),(4,12),(5,12),(6,12),(7,12),(8,12),(9,12),(10,12),(0,14),(1,14),(2,14),(3,14),(4,14),(5,14),(6,14),(7,14),(8,14),(9,14),(10,14),(11,14),(12,14),(13,14),(0,15),(1,15),(2,15),(3,15),(4,15),(5,15),(6,15),(7,15),(8,15),(9,15),(10,15),(11,15),(12,15),(13,15),(0,16),(1,16),(2,16),(3,16),(4,16),(5,16),(6,16),(7,16),(8,16),(9,16),(10,16),(11,16),(12,16),(13,16),(0,17),(1,17),(2,17),(3,17),(4,17),(5,17),(6,17),(7,17),(8,17),(9,17),(10,17),(11,17),(12,17),(13,17),(0,19),(1,19),(2,19),(3,19),(4,19),(5,19),(6,19),(7,19),(8,19),(9,19),(10,19),(11,19),(12,19),(13,19),(14,19),(15,19),(16,19),(17,19),(18,19),(0,20),(1,20),(2,20),(3,20),(4,20),(5,20),(6,20),(7,20),(8,20),(9,20),(10,20),(11,20),(12,20),(13,20),(14,20),(15,20),(16,20),(17,20),(18,20),(0,21),(1,21),(2,21),(3,21),(4,21),(5,21),(6,21),(7,21),(8,21),(9,21),(10,21),(11,21),(12,21),(13,21),(14,21),(15,21),(16,21),(17,21),(18,21),(0,22),(1,22),(2,22),(3,22),(4,22),(5,22),(6,22),(7,22),(8,22),(9,22),(10,22),(11,22),(12,22),(13,22),(14,22),(15,22),(16,22),(17,22),(18,22),(0,24),(1,24),(2,24),(3,24),(4,24),(5,24),(6,24),(7,24),(8,24),(9,24),(10,24),(11,24),(12,24),(13,24),(14,24),(15,24),(16,24),(17,24),(18,24),(19,24),(20,24),(21,24),(22,24),(23,24),(0,25),(1,25),(2,25),(3,25),(4,25),(5,25),(6,25),(7,25),(8,25),(9,25),(10,25),(11,25),(12,25),(13,25),(14,25),(15,25),(16,25),(17,25),(18,25),(19,25),(20,25),(21,25),(22,25),(23,25)]∧RR zq5 [oo 48 (oM 5),oo 49 (oC .neq 3 48 0)]∧RR zq4 [oo 50 (oM 5),oo 2 (oG 50)]∧RR zq8 [oo 13 (oM 3),oo 14 (oC .add 3 13 1),oo 3 (oG 14)]∧RI zit (.seq (.seq (zq9) (.cond (.tmp 12) (.skip) (.exit 0))) (.seq (.block 1 (.seq (zq7) (.seq (zq6) (.seq (zq5) (.cond (.tmp 49) (.seq (zq4) (.ret)) (.skip)))))) (zq8)))∧ze T 98 zit [0,3]∧RR zk1 [oo 2 (oi 0)]∧zw T 98 [.tmp 2] false:=by refine⟨zz T ?_,zz T ?_,zz T ?_,zz T ?_,zz T ?_,zz T ?_,xv T (id:=7) ?_ ?_,zz T ?_,zz T ?_,zz T ?_,zr T ?_,zo T ?_,zz T ?_,zy T (F:=f98) ?_ ?_ ?_⟩<;>kernel_rfl
@[go_sem]theorem fr61:xd T 61 false none false∧zf T 61 39:=by refine⟨⟨?_,?_,?_⟩,zh T (F:=f61) ?_ ?_⟩<;>kernel_rfl
def yku:=nv 2 f111
def ykt:=nv 6 f111
theorem xei:xc T 111 14 (.seq (yku) (.seq (ykt) (.ret))):=zk T (F:=f111) (by kernel_rfl) (by kernel_rfl) (by kernel_rfl)
@[go_sem↓]theorem run111:RR yku [oo 4 (oi 0)]∧RR ykt [oo 5 (oM 0),oo 6 (oC .eql 3 5 0),oo 7 (.call ⟨.value (.func 61),#[.tmp 6,.const (.int .i64 12)],#[4,39]⟩),oo 8 (oM 0),oo 9 (oM 1),oo 10 (oB .gtr 3 8 9),oo 11 (.call ⟨.value (.func 61),#[.tmp 10,.const (.int .i64 5)],#[4,39]⟩),oo 12 (.buildSlice 148 2 #[(0,.tmp 7),(1,.tmp 11)]),oo 13 (o1 60 12 148),oo 4 (oG 13)]∧zw T 111 [.tmp 4] false:=by refine⟨zz T ?_,zz T ?_,zy T (F:=f111) ?_ ?_ ?_⟩<;>kernel_rfl
@[go_sem]theorem fr62:xd T 62 false none false∧zf T 62 148:=by refine⟨⟨?_,?_,?_⟩,zh T (F:=f62) ?_ ?_⟩<;>kernel_rfl
def yju:=nv 2 f124
def yjt:=nv 6 f124
theorem xef:xc T 124 21 (.seq (yju) (.seq (yjt) (.ret))):=zk T (F:=f124) (by kernel_rfl) (by kernel_rfl) (by kernel_rfl)
@[go_sem↓]theorem run124:RR yju [oo 3 (oi 0)]∧RD yjt 124 [oo 4 (oM 0),oo 5 (oN 4 35),oo 6 (.call ⟨.value (.func 111),#[.tmp 5,.const (.int .i64 8)],#[3,3]⟩),oo 7 (oM 0),oo 8 (oN 7 35),oo 9 (oF 44 1 0),oo 10 (oL 31 9),oo 11 (.indexAddr 31 (.tmp 10) (.const (.int .i64 0))),oo 12 (oL 35 11),oo 13 (oN 12 35),oo 14 (oB .neq 3 8 13),oo 15 (.call ⟨.value (.func 61),#[.tmp 14,.const (.int .i64 2)],#[4,39]⟩),oo 16 (oM 0),oo 17 (.call ⟨.value (.func 62),#[.tmp 16,.func 63],#[35,150]⟩),oo 18 (o1 60 17 148),oo 19 (.buildSlice 148 3 #[(0,.tmp 6),(1,.tmp 15),(2,.tmp 18)]),oo 20 (o1 60 19 148),oo 3 (oG 20)] [(0,3),(1,3),(2,3),(0,4),(1,4),(2,4),(0,5),(1,5),(2,5),(3,5),(4,5),(0,6),(1,6),(2,6),(3,6),(4,6),(0,7),(1,7),(2,7),(3,7),(4,7),(0,8),(1,8),(2,8),(3,8),(4,8),(0,9),(1,9),(2,9),(3,9),(4,9),(0,10),(1,10),(2,10),(0,12),(1,12),(2,12),(3,12),(4,12),(5,12),(6,12),(7,12),(8,12),(9,12),(10,12),(11,12)]∧zw T 124 [.tmp 3] false:=by refine⟨zz T ?_,xv T (id:=1) ?_ ?_,zy T (F:=f124) ?_ ?_ ?_⟩<;>kernel_rfl
def zug:=nv 2 f60
def zuf:=nv 12 f60
def zi0:=nv 52 f60
def zue:=nv 104 f60
def zud:=nv 1688 f60
def zuc:=nv 3378 f60
def zub:=nv 13516 f60
def zua:=nv 423 f60
def zk8:=nv 14 f60
theorem xcc:xc T 60 15 (.seq (zug) (.seq (.seq (zuf) (.block 0 (.loop zi0))) (.seq (zk8) (.ret)))):=zk T (F:=f60) (by kernel_rfl) (by kernel_rfl) (by kernel_rfl)
@[go_sem↓]theorem run60:RR zug [oo 2 (oi 0)]∧RR zuf [oo 5 (oM 0),oo 6 (oN 5 148),oo 7 (.move (.const (.int .i64 0)))]∧RR zue [oo 8 (oB .lss 3 7 6)]∧RR zud [oo 9 (oI 148 5 7),oo 10 (oL 39 9),oo 4 (oG 10)]∧RR zuc [oo 11 (oM 4),oo 12 (oC .neq 39 11 0)]∧RR zub [oo 13 (oM 4),oo 2 (oG 13)]∧RR zua [oo 14 (oC .add 3 7 1),oo 7 (oM 14)]∧RI zi0 (.seq (zue) (.seq (.cond (.tmp 8) (.skip) (.exit 0)) (.seq (.block 1 (.seq (zud) (.seq (zuc) (.cond (.tmp 12) (.seq (zub) (.ret)) (.skip))))) (zua))))∧ze T 60 zi0 [5,6,7]∧RR zk8 [oo 2 (oi 0)]∧zw T 60 [.tmp 2] false:=by refine⟨zz T ?_,zz T ?_,zz T ?_,zz T ?_,zz T ?_,zz T ?_,zz T ?_,zr T ?_,zo T ?_,zz T ?_,zy T (F:=f60) ?_ ?_ ?_⟩<;>kernel_rfl
def zt9:=nv 2 f61
def zt8:=nv 12 f61
def zt7:=nv 52 f61
def zt6:=nv 14 f61
theorem xcb:xc T 61 7 (.seq (zt9) (.seq (.seq (zt8) (.cond (.tmp 5) (.seq (zt7) (.ret)) (.skip))) (.seq (zt6) (.ret)))):=zk T (F:=f61) (by kernel_rfl) (by kernel_rfl) (by kernel_rfl)
@[go_sem↓]theorem run61:RR zt9 [oo 4 (oi 0)]∧RR zt8 [oo 5 (oM 0)]∧RR zt7 [oo 6 (oM 1),oo 4 (oG 6)]∧RR zt6 [oo 4 (oi 0)]∧zw T 61 [.tmp 4] false:=by refine⟨zz T ?_,zz T ?_,zz T ?_,zz T ?_,zy T (F:=f61) ?_ ?_ ?_⟩<;>kernel_rfl
def zt5:=nv 2 f62
def zt4:=nv 6 f62
def zt3:=nv 28 f62
def ziz:=nv 116 f62
def zt2:=nv 232 f62
def zt1:=nv 3736 f62
def zt0:=nv 3737 f62
def ztz:=nv 935 f62
def zk7:=nv 30 f62
theorem xca:xc T 62 22 (.seq (zt5) (.seq (zt4) (.seq (.seq (zt3) (.block 0 (.loop ziz))) (.seq (zk7) (.ret))))):=zk T (F:=f62) (by kernel_rfl) (by kernel_rfl) (by kernel_rfl)
@[go_sem↓]theorem run62:RR zt5 [oo 4 on]∧RR zt4 [oo 5 on]∧RR zt3 [oo 8 (oM 0),oo 9 (oN 8 35),oo 10 (.move (.const (.int .i64 0)))]∧RR zt2 [oo 11 (oB .lss 3 10 9)]∧RR zt1 [oo 12 (oI 35 8 10),oo 13 (oL 3 12),oo 7 (oG 13)]∧RR zt0 [oo 14 (oM 5),oo 15 (oM 1),oo 16 (oM 7),oo 17 (.call ⟨.value (.tmp 15),#[.tmp 16],#[3]⟩),oo 18 (oS 148 17),oo 19 (oA 14 18 148),oo 5 (oG 19)]∧RR ztz [oo 20 (oC .add 3 10 1),oo 10 (oM 20)]∧RI ziz (.seq (zt2) (.seq (.cond (.tmp 11) (.skip) (.exit 0)) (.seq (.block 1 (.seq (zt1) (zt0))) (ztz))))∧ze T 62 ziz [1,5,8,9,10]∧RR zk7 [oo 21 (oM 5),oo 4 (oG 21)]∧zw T 62 [.tmp 4] false:=by refine⟨zz T ?_,zz T ?_,zz T ?_,zz T ?_,zz T ?_,zz T ?_,zz T ?_,zr T ?_,zo T ?_,zz T ?_,zy T (F:=f62) ?_ ?_ ?_⟩<;>kernel_rfl
@[go_sem]theorem fr80:xd T 80 false none false∧zf T 80 39:=by refine⟨⟨?_,?_,?_⟩,zh T (F:=f80) ?_ ?_⟩<;>kernel_rfl
def zty:=nv 2 f63
def ztx:=nv 6 f63
theorem xb9:xc T 63 5 (.seq (zty) (.seq (ztx) (.ret))):=zk T (F:=f63) (by kernel_rfl) (by kernel_rfl) (by kernel_rfl)
@[go_sem↓]theorem run63:RR zty [oo 2 (oi 0)]∧RR ztx [oo 3 (oM 0),oo 4 (.call ⟨.value (.func 80),#[.tmp 3,.const (.int .i64 0),.const (.int .i64 1000000)],#[3,3,3]⟩),oo 2 (oG 4)]∧zw T 63 [.tmp 2] false:=by refine⟨zz T ?_,zz T ?_,zy T (F:=f63) ?_ ?_ ?_⟩<;>kernel_rfl
def yjs:=nv 2 f125
def yjr:=nv 6 f125
theorem xee:xc T 125 23 (.seq (yjs) (.seq (yjr) (.ret))):=zk T (F:=f125) (by kernel_rfl) (by kernel_rfl) (by kernel_rfl)
@[go_sem↓]theorem run125:RR yjs [oo 2 (.box 141 (.tmp 0)),oo 3 (oi 0)]∧RD yjr 125 [oo 4 (oF 141 2 1),oo 5 (oL 3 4),oo 6 (oF 44 1 0),oo 7 (oL 31 6),oo 8 (oN 7 31),oo 9 (oB .geq 3 5 8),oo 10 (.call ⟨.value (.func 61),#[.tmp 9,.const (.int .i64 10)],#[4,39]⟩),oo 11 (oF 141 2 2),oo 12 (oL 52 11),oo 13 (oN 12 52),oo 14 (oF 44 1 0),oo 15 (oL 31 14),oo 16 (.indexAddr 31 (.tmp 15) (.const (.int .i64 0))),oo 17 (oL 35 16),oo 18 (oN 17 35),oo 19 (oB .neq 3 13 18),oo 20 (.call ⟨.value (.func 61),#[.tmp 19,.const (.int .i64 2)],#[4,39]⟩),oo 21 (.buildSlice 148 2 #[(0,.tmp 10),(1,.tmp 20)]),oo 22 (o1 60 21 148),oo 3 (oG 22)] [(0,2),(1,2),(0,3),(1,3),(0,4),(1,4),(0,7),(1,7),(2,7),(3,7),(4,7),(5,7),(6,7),(0,8),(1,8),(2,8),(3,8),(4,8),(5,8),(6,8),(0,9),(1,9),(2,9),(3,9),(4,9),(5,9),(6,9),(0,10),(1,10),(2,10),(3,10),(4,10),(5,10),(6,10),(7,10),(8,10),(9,10),(0,11),(1,11),(2,11),(3,11),(4,11),(5,11),(6,11),(7,11),(8,11),(9,11),(0,12),(1,12),(2,12),(3,12),(4,12),(5,12),(6,12),(7,12),(8,12),(9,12),(0,13),(1,13),(2,13),(3,13),(4,13),(5,13),(6,13),(7,13),(8,13),(9,13),(0,14),(1,14),(2,14),(3,14),(4,14),(5,14),(6,14),(7,14),(8,14),(9,14),(0,15),(1,15),(2,15),(3,15),(4,15),(5,15),(6,15)]∧zw T 125 [.tmp 3] false:=by refine⟨zz T ?_,xv T (id:=1) ?_ ?_,zy T (F:=f125) ?_ ?_ ?_⟩<;>kernel_rfl
def yjq:=nv 2 f126
def yjp:=nv 6 f126
def yjo:=nv 28 f126
def zjx:=nv 116 f126
def yjn:=nv 232 f126
def yjm:=nv 3736 f126
def yjl:=nv 3737 f126
def yjk:=nv 935 f126
def zl7:=nv 30 f126
theorem xed:xc T 126 22 (.seq (yjq) (.seq (yjp) (.seq (.seq (yjo) (.block 0 (.loop zjx))) (.seq (zl7) (.ret))))):=zk T (F:=f126) (by kernel_rfl) (by kernel_rfl) (by kernel_rfl)
@[go_sem↓]theorem run126:RR yjq [oo 4 on]∧RR yjp [oo 5 on]∧RR yjo [oo 8 (oM 0),oo 9 (oN 8 31),oo 10 (.move (.const (.int .i64 0)))]∧RR yjn [oo 11 (oB .lss 3 10 9)]∧RR yjm [oo 12 (oI 31 8 10),oo 13 (oL 35 12),oo 7 (oG 13)]∧RR yjl [oo 14 (oM 5),oo 15 (oM 1),oo 16 (oM 7),oo 17 (.call ⟨.value (.tmp 15),#[.tmp 16],#[35]⟩),oo 18 (oS 148 17),oo 19 (oA 14 18 148),oo 5 (oG 19)]∧RR yjk [oo 20 (oC .add 3 10 1),oo 10 (oM 20)]∧RI zjx (.seq (yjn) (.seq (.cond (.tmp 11) (.skip) (.exit 0)) (.seq (.block 1 (.seq (yjm) (yjl))) (yjk))))∧ze T 126 zjx [1,5,8,9,10]∧RR zl7 [oo 21 (oM 5),oo 4 (oG 21)]∧zw T 126 [.tmp 4] false:=by refine⟨zz T ?_,zz T ?_,zz T ?_,zz T ?_,zz T ?_,zz T ?_,zz T ?_,zr T ?_,zo T ?_,zz T ?_,zy T (F:=f126) ?_ ?_ ?_⟩<;>kernel_rfl
@[go_sem]theorem fr176:xd T 176 false none false∧zf T 176 4:=by refine⟨⟨?_,?_,?_⟩,zh T (F:=f176) ?_ ?_⟩<;>kernel_rfl
@[go_sem]theorem fr177:xd T 177 false none false∧zf T 177 39:=by refine⟨⟨?_,?_,?_⟩,zh T (F:=f177) ?_ ?_⟩<;>kernel_rfl
def yjj:=nv 2 f127
def yji:=nv 12 f127
def yjf:=nv 52 f127
def yje:=nv 14 f127
def yjd:=nv 60 f127
def zjw:=nv 244 f127
def yjc:=nv 488 f127
def yjb:=nv 7832 f127
def yja:=nv 31332 f127
def yi9:=nv 62666 f127
def yi8:=nv 250668 f127
def yjh:=nv 15667 f127
def yjg:=nv 1959 f127
def zl6:=nv 62 f127
theorem xec:xc T 127 38 (.seq (yjj) (.seq (.seq (yji) (.cond (.tmp 9) (.seq (yjf) (.ret)) (.skip))) (.seq (yje) (.seq (.seq (yjd) (.block 0 (.loop zjw))) (.seq (zl6) (.ret)))))):=zk T (F:=f127) (by kernel_rfl) (by kernel_rfl) (by kernel_rfl)
@[go_sem↓]theorem run127:RR yjj [oo 2 (oi 0)]∧RR yji [oo 7 (oM 0),oo 8 (oN 7 42),oo 9 (oC .gtr 3 8 8)]∧RR yjf [oo 2 (oi 5)]∧RR yje [oo 10 (.makeMap 257 none),oo 3 (oG 10)]∧RR yjd [oo 11 (oM 0),oo 12 (oN 11 42),oo 13 (.move (.const (.int .i64 0)))]∧RR yjc [oo 14 (oB .lss 3 13 12)]∧RR yjb [oo 15 (oI 42 11 13),oo 16 (oL 141 15),oo 5 (.alloc 141),ow 141 5 16]∧RD yja 127 [oo 17 (oF 141 5 0),oo 18 (oL 9 17),oo 19 (o1 176 18 9),oo 20 (.unOp .not 4 (.tmp 19)),oo 21 (.call ⟨.value (.func 61),#[.tmp 20,.const (.int .i64 8)],#[4,39]⟩),oo 22 (oM 3),oo 23 (oF 141 5 0),oo 24 (oL 9 23),oo 25 (.lookup 257 (.tmp 22) (.tmp 24) false),oo 26 (.call ⟨.value (.func 61),#[.tmp 25,.const (.int .i64 9)],#[4,39]⟩),oo 27 (oL 141 5),oo 28 (o1 177 27 141),oo 29 (.buildSlice 148 3 #[(0,.tmp 21),(1,.tmp 26),(2,.tmp 28)]),oo 30 (o1 60 29 148),oo 6 (oG 30)] [(0,5),(1,5),(2,5),(3,5),(4,5),(0,6),(1,6),(2,6),(3,6),(4,6),(5,6),(0,7),(1,7),(2,7),(3,7),(4,7),(5,7),(0,8),(1,8),(2,8),(3,8),(4,8),(0,10),(1,10),(2,10),(3,10),(4,10),(5,10),(6,10),(7,10),(8,10),(9,10)]∧RR yi9 [oo 31 (oM 6),oo 32 (oC .neq 39 31 0)]∧RR yi8 [oo 33 (oM 6),oo 2 (oG 33)]∧RR yjh [oo 34 (oM 3),oo 35 (oF 141 5 0),oo 36 (oL 9 35),⟨none,.mapUpdate 257 (.tmp 34) (.tmp 36) (.const (.bool true)),none⟩]∧RR yjg [oo 37 (oC .add 3 13 1),oo 13 (oM 37)]∧RI zjw (.seq (yjc) (.seq (.cond (.tmp 14) (.skip) (.exit 0)) (.seq (.block 1 (.seq (yjb) (.seq (.seq (yja) (.seq (yi9) (.cond (.tmp 32) (.seq (yi8) (.ret)) (.skip)))) (yjh)))) (yjg))))∧ze T 127 zjw [3,11,12,13]∧RR zl6 [oo 2 (oi 0)]∧zw T 127 [.tmp 2] false:=by refine⟨zz T ?_,zz T ?_,zz T ?_,zz T ?_,zz T ?_,zz T ?_,zz T ?_,xv T (id:=7) ?_ ?_,zz T ?_,zz T ?_,zz T ?_,zz T ?_,zr T ?_,zo T ?_,zz T ?_,zy T (F:=f127) ?_ ?_ ?_⟩<;>kernel_rfl
def yi7:=nv 2 f128
def yi6:=nv 6 f128
def yi5:=nv 28 f128
def zjv:=nv 116 f128
def yi4:=nv 232 f128
def yi3:=nv 3736 f128
def yi2:=nv 3737 f128
def yi1:=nv 935 f128
def zl5:=nv 30 f128
theorem xeb:xc T 128 22 (.seq (yi7) (.seq (yi6) (.seq (.seq (yi5) (.block 0 (.loop zjv))) (.seq (zl5) (.ret))))):=zk T (F:=f128) (by kernel_rfl) (by kernel_rfl) (by kernel_rfl)
@[go_sem↓]theorem run128:RR yi7 [oo 4 on]∧RR yi6 [oo 5 on]∧RR yi5 [oo 8 (oM 0),oo 9 (oN 8 42),oo 10 (.move (.const (.int .i64 0)))]∧RR yi4 [oo 11 (oB .lss 3 10 9)]∧RR yi3 [oo 12 (oI 42 8 10),oo 13 (oL 141 12),oo 7 (.alloc 141),ow 141 7 13]∧RR yi2 [oo 14 (oM 5),oo 15 (oM 1),oo 16 (oL 141 7),oo 17 (.call ⟨.value (.tmp 15),#[.tmp 16],#[141]⟩),oo 18 (oS 148 17),oo 19 (oA 14 18 148),oo 5 (oG 19)]∧RR yi1 [oo 20 (oC .add 3 10 1),oo 10 (oM 20)]∧RI zjv (.seq (yi4) (.seq (.cond (.tmp 11) (.skip) (.exit 0)) (.seq (.block 1 (.seq (yi3) (yi2))) (yi1))))∧ze T 128 zjv [1,5,8,9,10]∧RR zl5 [oo 21 (oM 5),oo 4 (oG 21)]∧zw T 128 [.tmp 4] false:=by refine⟨zz T ?_,zz T ?_,zz T ?_,zz T ?_,zz T ?_,zz T ?_,zz T ?_,zr T ?_,zo T ?_,zz T ?_,zy T (F:=f128) ?_ ?_ ?_⟩<;>kernel_rfl
def zsa:=nv 2 f80
def zr9:=nv 6 f80
theorem xbw:xc T 80 16 (.seq (zsa) (.seq (zr9) (.ret))):=zk T (F:=f80) (by kernel_rfl) (by kernel_rfl) (by kernel_rfl)
@[go_sem↓]theorem run80:RR zsa [oo 6 (oi 0)]∧RR zr9 [oo 7 (oM 0),oo 8 (oM 1),oo 9 (oB .lss 3 7 8),oo 10 (oM 9),of 11 (oM 0) 10,of 12 (oM 2) 10,of 13 (oB .gtr 3 11 12) 10,oo 14 (.pick (.tmp 10) (.const (.bool true)) (.tmp 13)),oo 15 (.call ⟨.value (.func 61),#[.tmp 14,.const (.int .i64 3)],#[4,39]⟩),oo 6 (oG 15)]∧zw T 80 [.tmp 6] false:=by refine⟨zz T ?_,zz T ?_,zy T (F:=f80) ?_ ?_ ?_⟩<;>kernel_rfl
@[go_sem]theorem fr64:xd T 64 false none false∧zf T 64 148:=by refine⟨⟨?_,?_,?_⟩,zh T (F:=f64) ?_ ?_⟩<;>kernel_rfl
def ztw:=nv 2 f64
def ztv:=nv 6 f64
def ztu:=nv 28 f64
def ziy:=nv 116 f64
def ztt:=nv 232 f64
def zts:=nv 3736 f64
def ztr:=nv 3737 f64
def ztq:=nv 935 f64
def zk6:=nv 30 f64
theorem xb8:xc T 64 22 (.seq (ztw) (.seq (ztv) (.seq (.seq (ztu) (.block 0 (.loop ziy))) (.seq (zk6) (.ret))))):=zk T (F:=f64) (by kernel_rfl) (by kernel_rfl) (by kernel_rfl)
@[go_sem↓]theorem run64:RR ztw [oo 4 on]∧RR ztv [oo 5 on]∧RR ztu [oo 8 (oM 0),oo 9 (oN 8 52),oo 10 (.move (.const (.int .i64 0)))]∧RR ztt [oo 11 (oB .lss 3 10 9)]∧RR zts [oo 12 (oI 52 8 10),oo 13 (oL 56 12),oo 7 (.alloc 56),ow 56 7 13]∧RR ztr [oo 14 (oM 5),oo 15 (oM 1),oo 16 (oL 56 7),oo 17 (.call ⟨.value (.tmp 15),#[.tmp 16],#[56]⟩),oo 18 (oS 148 17),oo 19 (oA 14 18 148),oo 5 (oG 19)]∧RR ztq [oo 20 (oC .add 3 10 1),oo 10 (oM 20)]∧RI ziy (.seq (ztt) (.seq (.cond (.tmp 11) (.skip) (.exit 0)) (.seq (.block 1 (.seq (zts) (ztr))) (ztq))))∧ze T 64 ziy [1,5,8,9,10]∧RR zk6 [oo 21 (oM 5),oo 4 (oG 21)]∧zw T 64 [.tmp 4] false:=by refine⟨zz T ?_,zz T ?_,zz T ?_,zz T ?_,zz T ?_,zz T ?_,zz T ?_,zr T ?_,zo T ?_,zz T ?_,zy T (F:=f64) ?_ ?_ ?_⟩<;>kernel_rfl
@[go_sem]theorem fr65:xd T 65 false none false∧zf T 65 39:=by refine⟨⟨?_,?_,?_⟩,zh T (F:=f65) ?_ ?_⟩<;>kernel_rfl
def ztp:=nv 2 f65
def zto:=nv 6 f65
theorem xb7:xc T 65 17 (.seq (ztp) (.seq (zto) (.ret))):=zk T (F:=f65) (by kernel_rfl) (by kernel_rfl) (by kernel_rfl)
@[go_sem↓]theorem run65:RR ztp [oo 1 (.box 56 (.tmp 0)),oo 2 (oi 0)]∧RD zto 65 [oo 3 (oF 56 1 0),oo 4 (oL 3 3),oo 5 (o1 63 4 3),oo 6 (oF 56 1 1),oo 7 (oL 3 6),oo 8 (o1 63 7 3),oo 9 (oF 56 1 0),oo 10 (oL 3 9),oo 11 (oF 56 1 1),oo 12 (oL 3 11),oo 13 (oB .gtr 3 10 12),oo 14 (.call ⟨.value (.func 61),#[.tmp 13,.const (.int .i64 11)],#[4,39]⟩),oo 15 (.buildSlice 148 3 #[(0,.tmp 5),(1,.tmp 8),(2,.tmp 14)]),oo 16 (o1 60 15 148),oo 2 (oG 16)] [(0,3),(1,3),(2,3),(0,4),(1,4),(2,4),(0,6),(1,6),(2,6),(3,6),(4,6),(5,6),(0,7),(1,7),(2,7),(3,7),(4,7),(5,7),(0,8),(1,8),(2,8),(3,8),(4,8),(5,8),(6,8),(7,8),(0,9),(1,9),(2,9),(3,9),(4,9),(5,9),(6,9),(7,9),(0,10),(1,10),(2,10),(3,10),(4,10),(5,10)]∧zw T 65 [.tmp 2] false:=by refine⟨zz T ?_,xv T (id:=1) ?_ ?_,zy T (F:=f65) ?_ ?_ ?_⟩<;>kernel_rfl
@[go_sem]theorem fr200:xd T 200 false none false∧zf T 200 3:=by refine⟨⟨?_,?_,?_⟩,zh T (F:=f200) ?_ ?_⟩<;>kernel_rfl
def yev:=nv 2 f160
def yeu:=nv 12 f160
def zjl:=nv 52 f160
def yet:=nv 208 f160
def yer:=nv 840 f160
def yeq:=nv 1682 f160
def yep:=nv 6732 f160
def yes:=nv 211 f160
def zls:=nv 14 f160
theorem xdp:xc T 160 19 (.seq (yev) (.seq (.seq (yeu) (.block 0 (.loop zjl))) (.seq (zls) (.ret)))):=zk T (F:=f160) (by kernel_rfl) (by kernel_rfl) (by kernel_rfl)
@[go_sem↓]theorem run160:RR yev [oo 2 (oi 0)]∧RR yeu [oo 3 (oi 0)]∧RR yet [oo 5 (oM 3),oo 6 (oM 0),oo 7 (oN 6 52),oo 8 (oB .lss 3 5 7)]∧RR yer [oo 11 (oM 0),oo 12 (oM 3),oo 13 (oI 52 11 12),oo 14 (oL 56 13),oo 15 (.call ⟨.value (.func 200),#[.tmp 14,.const (.int .i64 0),.const (.int .i64 1000000)],#[56,3,3]⟩),oo 4 (oG 15)]∧RR yeq [oo 16 (oM 4),oo 17 (oC .neq 3 16 0)]∧RR yep [oo 18 (oM 4),oo 2 (oG 18)]∧RR yes [oo 9 (oM 3),oo 10 (oC .add 3 9 1),oo 3 (oG 10)]∧RI zjl (.seq (.seq (yet) (.cond (.tmp 8) (.skip) (.exit 0))) (.seq (.block 1 (.seq (yer) (.seq (yeq) (.cond (.tmp 17) (.seq (yep) (.ret)) (.skip))))) (yes)))∧ze T 160 zjl [0,3]∧RR zls [oo 2 (oi 0)]∧zw T 160 [.tmp 2] false:=by refine⟨zz T ?_,zz T ?_,zz T ?_,zz T ?_,zz T ?_,zz T ?_,zz T ?_,zr T ?_,zo T ?_,zz T ?_,zy T (F:=f160) ?_ ?_ ?_⟩<;>kernel_rfl
def zq3:=nv 2 f99
def zq2:=nv 6 f99
def zq1:=nv 28 f99
def zis:=nv 116 f99
def zq0:=nv 464 f99
def zqy:=nv 1864 f99
def zqx:=nv 3730 f99
def zqw:=nv 3731 f99
def zqz:=nv 467 f99
def zk0:=nv 30 f99
theorem xbk:xc T 99 26 (.seq (zq3) (.seq (zq2) (.seq (.seq (zq1) (.block 0 (.loop zis))) (.seq (zk0) (.ret))))):=zk T (F:=f99) (by kernel_rfl) (by kernel_rfl) (by kernel_rfl)
@[go_sem↓]theorem run99:RR zq3 [oo 2 on]∧RR zq2 [oo 3 on]∧RR zq1 [oo 4 (oi 0)]∧RR zq0 [oo 6 (oM 4),oo 7 (oM 0),oo 8 (oN 7 32),oo 9 (oB .lss 3 6 8)]∧RR zqy [oo 12 (oM 0),oo 13 (oM 4),oo 14 (oI 32 12 13),oo 15 (oL 54 14),oo 5 (.alloc 54),ow 54 5 15]∧RR zqx [oo 16 (.buildSlice 52 0 #[]),oo 17 (oF 54 5 2),oo 18 (oL 52 17),oo 19 (oA 16 18 52),oo 20 (oF 54 5 2),ow 52 20 19]∧RR zqw [oo 21 (oM 3),oo 22 (oL 54 5),oo 23 (oS 32 22),oo 24 (oA 21 23 32),oo 3 (oG 24)]∧RR zqz [oo 10 (oM 4),oo 11 (oC .add 3 10 1),oo 4 (oG 11)]∧RI zis (.seq (.seq (zq0) (.cond (.tmp 9) (.skip) (.exit 0))) (.seq (.block 1 (.seq (zqy) (.seq (zqx) (zqw)))) (zqz)))∧ze T 99 zis [0,3,4]∧RR zk0 [oo 25 (oM 3),oo 2 (oG 25)]∧zw T 99 [.tmp 2] false:=by refine⟨zz T ?_,zz T ?_,zz T ?_,zz T ?_,zz T ?_,zz T ?_,zz T ?_,zz T ?_,zr T ?_,zo T ?_,zz T ?_,zy T (F:=f99) ?_ ?_ ?_⟩<;>kernel_rfl
@[go_sem]theorem xa2:xd T 203 true none false:=⟨by kernel_rfl,by kernel_rfl,by kernel_rfl⟩
@[go_sem]theorem ysk:zcq T 203:=zek T (F:=f203) (by kernel_rfl) (by kernel_rfl)
def yeo:=nv 2 f171
def yen:=nv 6 f171
def yem:=nv 14 f171
def yel:=nv 30 f171
def yek:=nv 62 f171
theorem xdo:xc T 171 19 (.seq (yeo) (.seq (yen) (.seq (yem) (.seq (yel) (.seq (yek) (.ret)))))):=zk T (F:=f171) (by kernel_rfl) (by kernel_rfl) (by kernel_rfl)
@[go_sem↓]theorem run171:RR yeo [oo 2 (oi 0)]∧RR yen [oo 4 (oM 0),oo 5 (oN 4 35),oo 6 (.makeSlice 35 (.tmp 5) (.tmp 5)),oo 3 (oG 6)]∧RR yem [oo 7 (oM 3),oo 8 (oM 0),oo 9 (.call ⟨.builtin .copy,#[.tmp 7,.tmp 8],#[35,35]⟩)]∧RR yel [oo 10 (oM 3),oo 11 (o1 203 10 35)]∧RR yek [oo 12 (oM 3),oo 13 (oM 3),oo 14 (oN 13 35),oo 15 (oC .sub 3 14 1),oo 16 (oC .quo 3 15 2),oo 17 (oI 35 12 16),oo 18 (oL 3 17),oo 2 (oG 18)]∧zw T 171 [.tmp 2] false:=by refine⟨zz T ?_,zz T ?_,zz T ?_,zz T ?_,zz T ?_,zy T (F:=f171) ?_ ?_ ?_⟩<;>kernel_rfl
def yaz:=nv 2 f218
def yay:=nv 6 f218
def yax:=nv 28 f218
def zi9:=nv 116 f218
def yaw:=nv 232 f218
def yav:=nv 3736 f218
def yau:=nv 3737 f218
def yat:=nv 935 f218
def zlh:=nv 30 f218
theorem xc1:xc T 218 22 (.seq (yaz) (.seq (yay) (.seq (.seq (yax) (.block 0 (.loop zi9))) (.seq (zlh) (.ret))))):=zk T (F:=f218) (by kernel_rfl) (by kernel_rfl) (by kernel_rfl)
@[go_sem↓]theorem run218:RR yaz [oo 4 on]∧RR yay [oo 5 on]∧RR yax [oo 8 (oM 0),oo 9 (oN 8 31),oo 10 (.move (.const (.int .i64 0)))]∧RR yaw [oo 11 (oB .lss 3 10 9)]∧RR yav [oo 12 (oI 31 8 10),oo 13 (oL 35 12),oo 7 (oG 13)]∧RR yau [oo 14 (oM 5),oo 15 (oM 1),oo 16 (oM 7),oo 17 (.call ⟨.value (.tmp 15),#[.tmp 16],#[35]⟩),oo 18 (oS 35 17),oo 19 (oA 14 18 35),oo 5 (oG 19)]∧RR yat [oo 20 (oC .add 3 10 1),oo 10 (oM 20)]∧RI zi9 (.seq (yaw) (.seq (.cond (.tmp 11) (.skip) (.exit 0)) (.seq (.block 1 (.seq (yav) (yau))) (yat))))∧ze T 218 zi9 [1,5,8,9,10]∧RR zlh [oo 21 (oM 5),oo 4 (oG 21)]∧zw T 218 [.tmp 4] false:=by refine⟨zz T ?_,zz T ?_,zz T ?_,zz T ?_,zz T ?_,zz T ?_,zz T ?_,zr T ?_,zo T ?_,zz T ?_,zy T (F:=f218) ?_ ?_ ?_⟩<;>kernel_rfl
def yas:=nv 2 f219
def yar:=nv 6 f219
theorem xc0:xc T 219 8 (.seq (yas) (.seq (yar) (.ret))):=zk T (F:=f219) (by kernel_rfl) (by kernel_rfl) (by kernel_rfl)
@[go_sem↓]theorem run219:RR yas [oo 3 (oi 0)]∧RR yar [oo 4 (oM 0),oo 5 (oL 3 1),oo 6 (oI 35 4 5),oo 7 (oL 3 6),oo 3 (oG 7)]∧zw T 219 [.tmp 3] false:=by refine⟨zz T ?_,zz T ?_,zy T (F:=f219) ?_ ?_ ?_⟩<;>kernel_rfl
def yc1:=nv 2 f187
def yc0:=nv 6 f187
def ycz:=nv 28 f187
def zje:=nv 116 f187
def ycy:=nv 232 f187
def ycx:=nv 3736 f187
def ycw:=nv 3737 f187
def ycv:=nv 935 f187
def zlm:=nv 30 f187
theorem xdd:xc T 187 22 (.seq (yc1) (.seq (yc0) (.seq (.seq (ycz) (.block 0 (.loop zje))) (.seq (zlm) (.ret))))):=zk T (F:=f187) (by kernel_rfl) (by kernel_rfl) (by kernel_rfl)
@[go_sem↓]theorem run187:RR yc1 [oo 4 on]∧RR yc0 [oo 5 on]∧RR ycz [oo 8 (oM 0),oo 9 (oN 8 31),oo 10 (.move (.const (.int .i64 0)))]∧RR ycy [oo 11 (oB .lss 3 10 9)]∧RR ycx [oo 12 (oI 31 8 10),oo 13 (oL 35 12),oo 7 (oG 13)]∧RR ycw [oo 14 (oM 5),oo 15 (oM 1),oo 16 (oM 7),oo 17 (.call ⟨.value (.tmp 15),#[.tmp 16],#[35]⟩),oo 18 (oS 31 17),oo 19 (oA 14 18 31),oo 5 (oG 19)]∧RR ycv [oo 20 (oC .add 3 10 1),oo 10 (oM 20)]∧RI zje (.seq (ycy) (.seq (.cond (.tmp 11) (.skip) (.exit 0)) (.seq (.block 1 (.seq (ycx) (ycw))) (ycv))))∧ze T 187 zje [1,5,8,9,10]∧RR zlm [oo 21 (oM 5),oo 4 (oG 21)]∧zw T 187 [.tmp 4] false:=by refine⟨zz T ?_,zz T ?_,zz T ?_,zz T ?_,zz T ?_,zz T ?_,zz T ?_,zr T ?_,zo T ?_,zz T ?_,zy T (F:=f187) ?_ ?_ ?_⟩<;>kernel_rfl
def ycu:=nv 2 f188
def yct:=nv 6 f188
def ycs:=nv 28 f188
def zjd:=nv 116 f188
def ycr:=nv 232 f188
def ycq:=nv 3736 f188
def ycp:=nv 3737 f188
def yco:=nv 935 f188
def zll:=nv 30 f188
theorem xdc:xc T 188 25 (.seq (ycu) (.seq (yct) (.seq (.seq (ycs) (.block 0 (.loop zjd))) (.seq (zll) (.ret))))):=zk T (F:=f188) (by kernel_rfl) (by kernel_rfl) (by kernel_rfl)
@[go_sem↓]theorem run188:RR ycu [oo 3 on]∧RR yct [oo 4 on]∧RR ycs [oo 7 (oM 0),oo 8 (oN 7 35),oo 9 (.move (.const (.int .i64 0)))]∧RR ycr [oo 10 (oB .lss 3 9 8)]∧RR ycq [oo 11 (oM 9),oo 12 (oI 35 7 9),oo 13 (oL 3 12),oo 5 (oG 11),oo 6 (oG 13)]∧RR ycp [oo 14 (oM 4),oo 15 (oL 35 1),oo 16 (oM 5),oo 17 (oI 35 15 16),oo 18 (oL 3 17),oo 19 (oM 6),oo 20 (oB .sub 3 18 19),oo 21 (oS 35 20),oo 22 (oA 14 21 35),oo 4 (oG 22)]∧RR yco [oo 23 (oC .add 3 9 1),oo 9 (oM 23)]∧RI zjd (.seq (ycr) (.seq (.cond (.tmp 10) (.skip) (.exit 0)) (.seq (.block 1 (.seq (ycq) (ycp))) (yco))))∧ze T 188 zjd [1,4,7,8,9]∧RR zll [oo 24 (oM 4),oo 3 (oG 24)]∧zw T 188 [.tmp 3] false:=by refine⟨zz T ?_,zz T ?_,zz T ?_,zz T ?_,zz T ?_,zz T ?_,zz T ?_,zr T ?_,zo T ?_,zz T ?_,zy T (F:=f188) ?_ ?_ ?_⟩<;>kernel_rfl
@[go_sem]theorem fr199:xd T 199 false none false∧zf T 199 4:=by refine⟨⟨?_,?_,?_⟩,zh T (F:=f199) ?_ ?_⟩<;>kernel_rfl
def ye3:=nv 2 f158
def ye2:=nv 6 f158
theorem xdr:xc T 158 7 (.seq (ye3) (.seq (ye2) (.ret))):=zk T (F:=f158) (by kernel_rfl) (by kernel_rfl) (by kernel_rfl)
@[go_sem↓]theorem run158:RR ye3 [oo 2 (oi 0)]∧RR ye2 [oo 3 (oM 0),oo 4 (o1 199 3 9),oo 5 (.unOp .not 4 (.tmp 4)),oo 6 (.call ⟨.value (.func 96),#[.tmp 5,.const (.int .i64 8)],#[4,3]⟩),oo 2 (oG 6)]∧zw T 158 [.tmp 2] false:=by refine⟨zz T ?_,zz T ?_,zy T (F:=f158) ?_ ?_ ?_⟩<;>kernel_rfl
def ye1:=nv 2 f159
def ye0:=nv 12 f159
def zjm:=nv 52 f159
def yez:=nv 208 f159
def yex:=nv 840 f159
def yew:=nv 3364 f159
def yey:=nv 211 f159
def zlt:=nv 14 f159
theorem xdq:xc T 159 20 (.seq (ye1) (.seq (.seq (ye0) (.block 0 (.loop zjm))) (.seq (zlt) (.ret)))):=zk T (F:=f159) (by kernel_rfl) (by kernel_rfl) (by kernel_rfl)
@[go_sem↓]theorem run159:RR ye1 [oo 4 (oi 0)]∧RR ye0 [oo 5 (oi 0)]∧RR yez [oo 6 (oM 5),oo 7 (oM 0),oo 8 (oN 7 32),oo 9 (oB .lss 3 6 8)]∧RR yex [oo 12 (oM 0),oo 13 (oM 5),oo 14 (oI 32 12 13),oo 15 (oF 54 14 0),oo 16 (oL 9 15),oo 17 (oM 1),oo 18 (oB .eql 9 16 17)]∧RR yew [oo 19 (oM 5),oo 4 (oG 19)]∧RR yey [oo 10 (oM 5),oo 11 (oC .add 3 10 1),oo 5 (oG 11)]∧RI zjm (.seq (.seq (yez) (.cond (.tmp 9) (.skip) (.exit 0))) (.seq (.block 1 (.seq (yex) (.cond (.tmp 18) (.seq (yew) (.ret)) (.skip)))) (yey)))∧ze T 159 zjm [0,1,5]∧RR zlt [oo 4 (oi (-1))]∧zw T 159 [.tmp 4] false:=by refine⟨zz T ?_,zz T ?_,zz T ?_,zz T ?_,zz T ?_,zz T ?_,zr T ?_,zo T ?_,zz T ?_,zy T (F:=f159) ?_ ?_ ?_⟩<;>kernel_rfl
def yej:=nv 2 f176
def yei:=nv 12 f176
def zjk:=nv 52 f176
def yeh:=nv 104 f176
def yeg:=nv 844 f176
def yef:=nv 1690 f176
def yee:=nv 3382 f176
def yed:=nv 13532 f176
def zlr:=nv 14 f176
theorem xdn:xc T 176 51 (.seq (yej) (.seq (.seq (yei) (.block 0 (.loop zjk))) (.seq (zlr) (.ret)))):=zk T (F:=f176) (by kernel_rfl) (by kernel_rfl) (by kernel_rfl)
@[go_sem↓]theorem run176:RR yej [oo 2 (.assign (.const (.bool false)))]∧RR yei [oo 6 (oM 0),oo 7 (.range 9 (.tmp 6))]∧RR yeh [oo 8 (.next (.tmp 7) true),oo 9 (oX 8 0)]∧RR yeg [oo 10 (oX 8 1),oo 11 (oX 8 2),oo 3 (oG 10),oo 4 (oG 11)]∧RR yef [oo 12 (oM 4),oo 13 (.binOp .geq 21 (.tmp 12) (.const (.int .i32 97)) 21),oo 14 (oM 13),ot 15 (oM 4) 14,ot 16 (.binOp .leq 21 (.tmp 15) (.const (.int .i32 122)) 21) 14,oo 17 (.pick (.tmp 14) (.tmp 16) (.const (.bool false))),oo 18 (oM 17),of 19 (oM 4) 18,of 20 (.binOp .geq 21 (.tmp 19) (.const (.int .i32 65)) 21) 18,of 21 (oM 20) 18,ot 22 (oM 4) 21,ot 23 (.binOp .leq 21 (.tmp 22) (.const (.int .i32 90)) 21) 21,of 24 (.pick (.tmp 21) (.tmp 23) (.const (.bool false))) 18,oo 25 (.pick (.tmp 18) (.const (.bool true)) (.tmp 24)),oo 5 (oG 25)]∧RR yee [oo 26 (oM 5),oo 27 (.unOp .not 4 (.tmp 26)),oo 28 (oM 27),ot 29 (oM 3) 28,ot 30 (oC .eql 3 29 0) 28,ot 31 (oM 30) 28,of 32 (oM 4) 31,of 33 (.binOp .neq 21 (.tmp 32) (.const (.int .i32 95)) 21) 31,of 34 (oM 33) 31,ot 35 (oM 4) 34,ot 36 (.binOp .lss 21 (.tmp 35) (.const (.int .i32 48)) 21) 34,ot 37 (oM 36) 34,of 38 (oM 4) 37,of 39 (.binOp .gtr 21 (.tmp 38) (.const (.int .i32 57)) 21) 37,ot 40 (.pick (.tmp 37) (.const (.bool true)) (.tmp 39)) 34,of 41 (.pick (.tmp 34) (.tmp 40) (.const (.bool false))) 31,ot 42 (.pick (.tmp 31) (.const (.bool true)) (.tmp 41)) 28,oo 43 (.pick (.tmp 28) (.tmp 42) (.const (.bool false)))]∧RR yed [oo 2 (.assign (.const (.bool false)))]∧RI zjk (.seq (yeh) (.seq (.cond (.tmp 9) (.skip) (.exit 0)) (.block 1 (.seq (yeg) (.seq (yef) (.seq (yee) (.cond (.tmp 43) (.seq (yed) (.ret)) (.skip))))))))∧ze T 176 zjk [0,7]∧RR zlr [oo 44 (oM 0),oo 45 (.binOp .neq 9 (.tmp 44) (.const (.string ⟨#[]⟩)) 9),oo 46 (oM 45),ot 47 (oM 0) 46,ot 48 (oN 47 9) 46,ot 49 (oC .leq 3 48 24) 46,oo 50 (.pick (.tmp 46) (.tmp 49) (.const (.bool false))),oo 2 (oG 50)]∧zw T 176 [.tmp 2] false:=by refine⟨zz T ?_,zz T ?_,zz T ?_,zz T ?_,zz T ?_,zz T ?_,zz T ?_,zr T ?_,zo T ?_,zz T ?_,zy T (F:=f176) ?_ ?_ ?_⟩<;>kernel_rfl
def yec:=nv 2 f177
def yeb:=nv 6 f177
theorem xdm:xc T 177 16 (.seq (yec) (.seq (yeb) (.ret))):=zk T (F:=f177) (by kernel_rfl) (by kernel_rfl) (by kernel_rfl)
@[go_sem↓]theorem run177:RR yec [oo 1 (.box 141 (.tmp 0)),oo 2 (oi 0)]∧RD yeb 177 [oo 3 (oF 141 1 1),oo 4 (oL 3 3),oo 5 (.call ⟨.value (.func 80),#[.tmp 4,.const (.int .i64 0),.const (.int .i64 7)],#[3,3,3]⟩),oo 6 (oF 141 1 2),oo 7 (oL 52 6),oo 8 (oN 7 52),oo 9 (.call ⟨.value (.func 111),#[.tmp 8,.const (.int .i64 8)],#[3,3]⟩),oo 10 (oF 141 1 2),oo 11 (oL 52 10),oo 12 (.call ⟨.value (.func 64),#[.tmp 11,.func 65],#[52,152]⟩),oo 13 (o1 60 12 148),oo 14 (.buildSlice 148 3 #[(0,.tmp 5),(1,.tmp 9),(2,.tmp 13)]),oo 15 (o1 60 14 148),oo 2 (oG 15)] [(0,3),(1,3),(2,3),(0,4),(1,4),(2,4),(0,5),(1,5),(2,5),(0,7),(1,7),(2,7),(3,7),(4,7),(5,7),(6,7),(0,8),(1,8),(2,8),(3,8),(4,8),(5,8),(6,8)]∧zw T 177 [.tmp 2] false:=by refine⟨zz T ?_,xv T (id:=1) ?_ ?_,zy T (F:=f177) ?_ ?_ ?_⟩<;>kernel_rfl
def ybr:=nv 2 f200
def ybq:=nv 6 f200
theorem xc7:xc T 200 25 (.seq (ybr) (.seq (ybq) (.ret))):=zk T (F:=f200) (by kernel_rfl) (by kernel_rfl) (by kernel_rfl)
@[go_sem↓]theorem run200:RR ybr [oo 3 (.box 56 (.tmp 0)),oo 6 (oi 0)]∧RD ybq 200 [oo 7 (oF 56 3 0),oo 8 (oL 3 7),oo 9 (oM 1),oo 10 (oM 2),oo 11 (.call ⟨.value (.func 38),#[.tmp 8,.tmp 9,.tmp 10],#[3,3,3]⟩),oo 12 (oF 56 3 1),oo 13 (oL 3 12),oo 14 (oM 1),oo 15 (oM 2),oo 16 (.call ⟨.value (.func 38),#[.tmp 13,.tmp 14,.tmp 15],#[3,3,3]⟩),oo 17 (oF 56 3 0),oo 18 (oL 3 17),oo 19 (oF 56 3 1),oo 20 (oL 3 19),oo 21 (oB .gtr 3 18 20),oo 22 (.call ⟨.value (.func 96),#[.tmp 21,.const (.int .i64 11)],#[4,3]⟩),oo 23 (.buildSlice 35 3 #[(0,.tmp 11),(1,.tmp 16),(2,.tmp 22)]),oo 24 (o1 89 23 35),oo 6 (oG 24)] [(0,2),(1,2),(0,3),(1,3),(2,3),(0,5),(1,5),(2,5),(3,5),(4,5),(0,6),(1,6),(2,6),(3,6),(4,6),(0,7),(1,7),(2,7),(3,7),(4,7),(5,7),(6,7),(0,8),(1,8),(2,8),(3,8),(4,8),(5,8),(6,8),(7,8),(0,10),(1,10),(2,10),(3,10),(4,10),(5,10),(6,10),(7,10),(8,10),(9,10),(0,11),(1,11),(2,11),(3,11),(4,11),(5,11),(6,11),(7,11),(8,11),(9,11),(0,12),(1,12),(2,12),(3,12),(4,12),(5,12),(6,12),(7,12),(8,12),(9,12),(10,12),(11,12),(0,13),(1,13),(2,13),(3,13),(4,13),(5,13),(6,13),(7,13),(8,13),(9,13),(10,13),(11,13),(0,14),(1,14),(2,14),(3,14),(4,14),(5,14),(6,14),(7,14),(8,14),(9,14)]∧zw T 200 [.tmp 6] false:=by refine⟨zz T ?_,xv T (id:=1) ?_ ?_,zy T (F:=f200) ?_ ?_ ?_⟩<;>kernel_rfl
@[go_sem]theorem fr183:xd T 183 false none false∧zf T 183 3:=by refine⟨⟨?_,?_,?_⟩,zh T (F:=f183) ?_ ?_⟩<;>kernel_rfl
@[go_sem]theorem xa1:xd T 224 true none false:=⟨by kernel_rfl,by kernel_rfl,by kernel_rfl⟩
@[go_sem]theorem ysj:zcq T 224:=zek T (F:=f224) (by kernel_rfl) (by kernel_rfl)
def ybp:=nv 2 f203
def ybo:=nv 3 f203
theorem xc6:xc T 203 11 (.seq (ybp) (ybo)):=zk T (F:=f203) (by kernel_rfl) (by kernel_rfl) (by kernel_rfl)
@[go_sem↓]theorem run203:RR ybp [oo 3 (oM 0),oo 4 (oN 3 35),oo 2 (oG 4)]∧RR ybo [oo 5 (oM 0),oo 6 (oM 2),oo 7 (oM 2),oo 8 (.convert 3 266 (.tmp 7)),oo 9 (o1 183 8 266),oo 10 (.call ⟨.value (.func 224),#[.tmp 5,.const (.int .i64 0),.tmp 6,.tmp 9],#[35,3,3,3]⟩)]∧zw T 203 [] true:=by refine⟨zz T ?_,zz T ?_,zy T (F:=f203) ?_ ?_ ?_⟩<;>kernel_rfl
def yb8:=nv 2 f199
def yb7:=nv 12 f199
def yb6:=nv 52 f199
def yb5:=nv 28 f199
def zjc:=nv 116 f199
def yb4:=nv 464 f199
def yb2:=nv 1864 f199
def yb1:=nv 3730 f199
def yb0:=nv 7462 f199
def ybz:=nv 29852 f199
def yb3:=nv 467 f199
def zlk:=nv 30 f199
theorem xc9:xc T 199 68 (.seq (yb8) (.seq (.seq (yb7) (.cond (.tmp 13) (.seq (yb6) (.ret)) (.skip))) (.seq (.seq (yb5) (.block 0 (.loop zjc))) (.seq (zlk) (.ret))))):=zk T (F:=f199) (by kernel_rfl) (by kernel_rfl) (by kernel_rfl)
@[go_sem↓]theorem run199:RR yb8 [oo 2 (.assign (.const (.bool false)))]∧RR yb7 [oo 6 (oM 0),oo 7 (oN 6 9),oo 8 (oC .eql 3 7 0),oo 9 (oM 8),of 10 (oM 0) 9,of 11 (oN 10 9) 9,of 12 (oC .gtr 3 11 24) 9,oo 13 (.pick (.tmp 9) (.const (.bool true)) (.tmp 12))]∧RR yb6 [oo 2 (.assign (.const (.bool false)))]∧RR yb5 [oo 3 (oi 0)]∧RR yb4 [oo 14 (oM 3),oo 15 (oM 0),oo 16 (oN 15 9),oo 17 (oB .lss 3 14 16)]∧RR yb2 [oo 20 (oM 0),oo 21 (oM 3),oo 22 (.index 9 (.tmp 20) (.tmp 21)),oo 23 (.binOp .geq 5 (.tmp 22) (.const (.int .u8 65)) 5),oo 24 (oM 23),ot 25 (oM 0) 24,ot 26 (oM 3) 24,ot 27 (.index 9 (.tmp 25) (.tmp 26)) 24,ot 28 (.binOp .leq 5 (.tmp 27) (.const (.int .u8 90)) 5) 24,oo 29 (.pick (.tmp 24) (.tmp 28) (.const (.bool false))),oo 30 (oM 29),of 31 (oM 0) 30,of 32 (oM 3) 30,of 33 (.index 9 (.tmp 31) (.tmp 32)) 30,of 34 (.binOp .geq 5 (.tmp 33) (.const (.int .u8 97)) 5) 30,of 35 (oM 34) 30,ot 36 (oM 0) 35,ot 37 (oM 3) 35,ot 38 (.index 9 (.tmp 36) (.tmp 37)) 35,ot 39 (.binOp .leq 5 (.tmp 38) (.const (.int .u8 122)) 5) 35,of 40 (.pick (.tmp 35) (.tmp 39) (.const (.bool false))) 30,oo 41 (.pick (.tmp 30) (.const (.bool true)) (.tmp 40)),oo 4 (oG 41)]∧RR yb1 [oo 42 (oM 0),oo 43 (oM 3),oo 44 (.index 9 (.tmp 42) (.tmp 43)),oo 45 (.binOp .geq 5 (.tmp 44) (.const (.int .u8 48)) 5),oo 46 (oM 45),ot 47 (oM 0) 46,ot 48 (oM 3) 46,ot 49 (.index 9 (.tmp 47) (.tmp 48)) 46,ot 50 (.binOp .leq 5 (.tmp 49) (.const (.int .u8 57)) 5) 46,oo 51 (.pick (.tmp 46) (.tmp 50) (.const (.bool false))),oo 52 (oM 51),of 53 (oM 0) 52,of 54 (oM 3) 52,of 55 (.index 9 (.tmp 53) (.tmp 54)) 52,of 56 (.binOp .eql 5 (.tmp 55) (.const (.int .u8 95)) 5) 52,oo 57 (.pick (.tmp 52) (.const (.bool true)) (.tmp 56)),oo 5 (oG 57)]∧RR yb0 [oo 58 (oM 4),oo 59 (.unOp .not 4 (.tmp 58)),oo 60 (oM 59),ot 61 (oM 3) 60,ot 62 (oC .eql 3 61 0) 60,ot 63 (oM 62) 60,of 64 (oM 5) 63,of 65 (.unOp .not 4 (.tmp 64)) 63,ot 66 (.pick (.tmp 63) (.const (.bool true)) (.tmp 65)) 60,oo 67 (.pick (.tmp 60) (.tmp 66) (.const (.bool false)))]∧RR ybz [oo 2 (.assign (.const (.bool false)))]∧RR yb3 [oo 18 (oM 3),oo 19 (oC .add 3 18 1),oo 3 (oG 19)]∧RI zjc (.seq (.seq (yb4) (.cond (.tmp 17) (.skip) (.exit 0))) (.seq (.block 1 (.seq (yb2) (.seq (yb1) (.seq (yb0) (.cond (.tmp 67) (.seq (ybz) (.ret)) (.skip)))))) (yb3)))∧ze T 199 zjc [0,3]∧RR zlk [oo 2 (.assign (.const (.bool true)))]∧zw T 199 [.tmp 2] false:=by refine⟨zz T ?_,zz T ?_,zz T ?_,zz T ?_,zz T ?_,zz T ?_,zz T ?_,zz T ?_,zz T ?_,zz T ?_,zr T ?_,zo T ?_,zz T ?_,zy T (F:=f199) ?_ ?_ ?_⟩<;>kernel_rfl
@[go_sem]theorem xa0:xd T 234 true none false:=⟨by kernel_rfl,by kernel_rfl,by kernel_rfl⟩
@[go_sem]theorem ysi:zcq T 234:=zek T (F:=f234) (by kernel_rfl) (by kernel_rfl)
@[go_sem]theorem fr240:xd T 240 false none false∧zf T 240 4:=by refine⟨⟨?_,?_,?_⟩,zh T (F:=f240) ?_ ?_⟩<;>kernel_rfl
def yal:=nv 2 f224
def yak:=nv 6 f224
def zoi:=nv 28 f224
def zz9:=nv 112 f224
def zzy:=nv 452 f224
def zzw:=nv 1812 f224
def zzv:=nv 908 f224
def zzu:=nv 3636 f224
def zzt:=nv 1820 f224
def zzs:=nv 7284 f224
def zzr:=nv 7285 f224
def yaj:=nv 1822 f224
def yai:=nv 7292 f224
def yah:=nv 29172 f224
def yag:=nv 58346 f224
def yaf:=nv 58347 f224
def yae:=nv 14588 f224
def yad:=nv 58356 f224
def yac:=nv 29180 f224
def yab:=nv 116724 f224
def yaa:=nv 233450 f224
def zz8:=nv 29182 f224
def zz7:=nv 58366 f224
def zz6:=nv 116734 f224
def zz5:=nv 233470 f224
def zz4:=nv 466942 f224
def zz3:=nv 1867772 f224
def zz2:=nv 3735546 f224
def zz1:=nv 3735547 f224
def zz0:=nv 1867774 f224
def zzz:=nv 3735550 f224
def zzx:=nv 3735551 f224
theorem xcy:xc T 224 134 (.seq (yal) (.seq (yak) (.block 0 (.loop zoi)))):=zk T (F:=f224) (by kernel_rfl) (by kernel_rfl) (by kernel_rfl)
@[go_sem↓]theorem run224:RR yal [oo 8 (.assign (.const (.bool true)))]∧RR yak [oo 9 (.assign (.const (.bool true)))]∧RR zz9 [oo 19 (oM 2),oo 20 (oM 1),oo 21 (oB .sub 3 19 20),oo 10 (oG 21)]∧RR zzy [oo 22 (oM 10),oo 23 (oC .leq 3 22 12)]∧RR zzw [oo 24 (oM 0),oo 25 (oM 1),oo 26 (oM 2),oo 27 (.call ⟨.value (.func 234),#[.tmp 24,.tmp 25,.tmp 26],#[35,3,3]⟩)]∧RR zzv [oo 28 (oM 3),oo 29 (oC .eql 3 28 0)]∧RR zzu [oo 30 (oM 0),oo 31 (oM 1),oo 32 (oM 2),oo 33 (.call ⟨.value (.func 235),#[.tmp 30,.tmp 31,.tmp 32],#[35,3,3]⟩)]∧RR zzt [oo 34 (oM 8),oo 35 (.unOp .not 4 (.tmp 34))]∧RR zzs [oo 36 (oM 0),oo 37 (oM 1),oo 38 (oM 2),oo 39 (.call ⟨.value (.func 236),#[.tmp 36,.tmp 37,.tmp 38],#[35,3,3]⟩)]∧RR zzr [oo 40 (oM 3),oo 41 (oC .sub 3 40 1),oo 3 (oG 41)]∧RR yaj [oo 43 (oM 0),oo 44 (oM 1),oo 45 (oM 2),oo 46 (.call ⟨.value (.func 237),#[.tmp 43,.tmp 44,.tmp 45],#[35,3,3]⟩),oo 42 (oM 46),oo 47 (oX 42 0),oo 48 (oX 42 1),oo 11 (oG 47),oo 12 (oG 48)]∧RR yai [oo 49 (oM 12),oo 50 (oC .eql 280 49 2)]∧RR yah [oo 51 (oM 0),oo 52 (oM 1),oo 53 (oM 2),oo 54 (.call ⟨.value (.func 238),#[.tmp 51,.tmp 52,.tmp 53],#[35,3,3]⟩)]∧RR yag [oo 55 (oM 2),oo 56 (oC .sub 3 55 1),oo 57 (oM 11),oo 58 (oM 1),oo 59 (oB .sub 3 57 58),oo 60 (oB .sub 3 56 59),oo 11 (oG 60)]∧RR yaf [oo 12 (oi 1)]∧RR yae [oo 61 (oM 8),oo 62 (oM 61),ot 63 (oM 9) 62,oo 64 (.pick (.tmp 62) (.tmp 63) (.const (.bool false))),oo 65 (oM 64),ot 66 (oM 12) 65,ot 67 (oC .eql 280 66 1) 65,oo 68 (.pick (.tmp 65) (.tmp 67) (.const (.bool false)))]∧RR yad [oo 69 (oM 0),oo 70 (oM 1),oo 71 (oM 2),oo 72 (.call ⟨.value (.func 239),#[.tmp 69,.tmp 70,.tmp 71],#[35,3,3]⟩)]∧RD yac 224 [oo 73 (oM 1),oo 74 (oC .gtr 3 73 0),oo 75 (oM 74),ot 76 (oM 0) 75,ot 77 (oM 1) 75,ot 78 (oC .sub 3 77 1) 75,ot 79 (oI 35 76 78) 75,ot 80 (oL 3 79) 75,ot 81 (oM 0) 75,ot 82 (oM 11) 75,ot 83 (oI 35 81 82) 75,ot 84 (oL 3 83) 75,ot 85 (o2 240 80 84 3 3) 75,ot 86 (.unOp .not 4 (.tmp 85)) 75,oo 87 (.pick (.tmp 75) (.tmp 86) (.const (.bool false)))] [(3,4),(3,5),(3,8),(4,8),(5,8),(6,8),(7,8),(3,9),(4,9),(5,9),(6,9),(7,9),(8,9),(3,10),(4,10),(5,10),(6,10),(7,10),(3,11),(4,11),(5,11),(6,11),(7,11)]∧RR yab [oo 88 (oM 0),oo 89 (oM 1),oo 90 (oM 2),oo 91 (oM 11),oo 92 (.call ⟨.value (.func 241),#[.tmp 88,.tmp 89,.tmp 90,.tmp 91],#[35,3,3,3]⟩),oo 13 (oG 92)]∧RR yaa [oo 93 (oM 13),oo 1 (oG 93)]∧RR zz8 [oo 95 (oM 0),oo 96 (oM 1),oo 97 (oM 2),oo 98 (oM 11),oo 99 (.call ⟨.value (.func 242),#[.tmp 95,.tmp 96,.tmp 97,.tmp 98],#[35,3,3,3]⟩),oo 94 (oM 99),oo 100 (oX 94 0),oo 101 (oX 94 1),oo 14 (oG 100),oo 15 (oG 101)]∧RR zz7 [oo 102 (oM 15),oo 9 (oG 102)]∧RR zz6 [oo 103 (oM 14),oo 104 (oM 1),oo 105 (oB .sub 3 103 104),oo 106 (oM 2),oo 107 (oM 14),oo 108 (oB .sub 3 106 107),oo 16 (oG 105),oo 17 (oG 108)]∧RR zz5 [oo 109 (oM 10),oo 110 (oC .quo 3 109 8),oo 18 (oG 110)]∧RR zz4 [oo 111 (oM 16),oo 112 (oM 17),oo 113 (oB .lss 3 111 112)]∧RR zz3 [oo 114 (oM 16),oo 115 (oM 18),oo 116 (oB .geq 3 114 115),oo 8 (oG 116)]∧RR zz2 [oo 117 (oM 0),oo 118 (oM 1),oo 119 (oM 14),oo 120 (oM 3),oo 121 (.call ⟨.value (.func 224),#[.tmp 117,.tmp 118,.tmp 119,.tmp 120],#[35,3,3,3]⟩)]∧RR zz1 [oo 122 (oM 14),oo 123 (oC .add 3 122 1),oo 1 (oG 123)]∧RR zz0 [oo 124 (oM 17),oo 125 (oM 18),oo 126 (oB .geq 3 124 125),oo 8 (oG 126)]∧RR zzz [oo 127 (oM 0),oo 128 (oM 14),oo 129 (oC .add 3 128 1),oo 130 (oM 2),oo 131 (oM 3),oo 132 (.call ⟨.value (.func 224),#[.tmp 127,.tmp 129,.tmp 130,.tmp 131],#[35,3,3,3]⟩)]∧RR zzx [oo 133 (oM 14),oo 2 (oG 133)]∧RI zoi (.block 1 (.seq (zz9) (.seq (.seq (zzy) (.cond (.tmp 23) (.seq (zzw) (.ret)) (.skip))) (.seq (.seq (zzv) (.cond (.tmp 29) (.seq (zzu) (.ret)) (.skip))) (.seq (.seq (zzt) (.cond (.tmp 35) (.seq (zzs) (zzr)) (.skip))) (.seq (yaj) (.seq (.seq (yai) (.cond (.tmp 50) (.seq (yah) (.seq (yag) (yaf))) (.skip))) (.seq (.seq (yae) (.cond (.tmp 68) (.seq (yad) (.cond (.tmp 72) (.ret) (.skip))) (.skip))) (.seq (.seq (yac) (.cond (.tmp 87) (.seq (yab) (.seq (yaa) (.exit 1))) (.skip))) (.seq (zz8) (.seq (zz7) (.seq (zz6) (.seq (zz5) (.seq (zz4) (.cond (.tmp 113) (.seq (zz3) (.seq (zz2) (zz1))) (.seq (zz0) (.seq (zzz) (zzx))))))))))))))))))∧ze T 224 zoi [0,1,2,3,8,9]∧zw T 224 [] true:=by refine⟨zz T ?_,zz T ?_,zz T ?_,zz T ?_,zz T ?_,zz T ?_,zz T ?_,zz T ?_,zz T ?_,zz T ?_,zz T ?_,zz T ?_,zz T ?_,zz T ?_,zz T ?_,zz T ?_,zz T ?_,xv T (id:=17) ?_ ?_,zz T ?_,zz T ?_,zz T ?_,zz T ?_,zz T ?_,zz T ?_,zz T ?_,zz T ?_,zz T ?_,zz T ?_,zz T ?_,zz T ?_,zz T ?_,zr T ?_,zo T ?_,zy T (F:=f224) ?_ ?_ ?_⟩<;>kernel_rfl
def zzd:=nv 2 f234
def zfy:=nv 12 f234
def zzc:=nv 48 f234
def zzb:=nv 200 f234
def zi7:=nv 804 f234
def zza:=nv 3216 f234
def zy8:=nv 6436 f234
def zy9:=nv 3219 f234
def zlf:=nv 51 f234
theorem xcw:xc T 234 49 (.seq (zzd) (.block 0 (.loop zfy))):=zk T (F:=f234) (by kernel_rfl) (by kernel_rfl) (by kernel_rfl)
@[go_sem↓]theorem run234:RR zzd [oo 8 (oM 1),oo 9 (oC .add 3 8 1),oo 6 (oG 9)]∧RR zzc [oo 10 (oM 6),oo 11 (oM 2),oo 12 (oB .lss 3 10 11)]∧RR zzb [oo 15 (oM 6),oo 7 (oG 15)]∧RD zza 234 [oo 16 (oM 7),oo 17 (oM 1),oo 18 (oB .gtr 3 16 17),oo 19 (oM 18),ot 20 (oM 0) 19,ot 21 (oM 7) 19,ot 22 (oI 35 20 21) 19,ot 23 (oL 3 22) 19,ot 24 (oM 0) 19,ot 25 (oM 7) 19,ot 26 (oC .sub 3 25 1) 19,ot 27 (oI 35 24 26) 19,ot 28 (oL 3 27) 19,ot 29 (o2 240 23 28 3 3) 19,oo 30 (.pick (.tmp 19) (.tmp 29) (.const (.bool false)))] [(0,1),(4,5),(4,8),(5,8),(6,8),(7,8),(4,9),(5,9),(6,9),(7,9),(8,9),(4,10),(5,10),(6,10),(7,10),(8,10),(4,11),(5,11),(6,11),(7,11),(4,12),(5,12),(6,12),(7,12)]∧RD zy8 234 [oo 33 (oM 0),oo 34 (oM 7),oo 35 (oM 0),oo 36 (oM 7),oo 37 (oC .sub 3 36 1),oo 38 (oM 0),oo 39 (oM 7),oo 40 (oC .sub 3 39 1),oo 41 (oI 35 38 40),oo 42 (oL 3 41),oo 43 (oM 0),oo 44 (oM 7),oo 45 (oI 35 43 44),oo 46 (oL 3 45),oo 47 (oI 35 33 34),ow 3 47 42,oo 48 (oI 35 35 37),ow 3 48 46] [(0,1),(0,2),(1,2),(0,3),(1,3),(2,3),(0,4),(1,4),(2,4),(0,5),(1,5),(2,5),(3,5),(4,5),(0,6),(1,6),(2,6),(3,6),(4,6),(5,6),(0,7),(1,7),(2,7),(3,7),(4,7),(5,7),(0,8),(1,8),(2,8),(3,8),(4,8),(0,9),(1,9),(2,9),(3,9),(4,9),(0,10),(1,10),(2,10),(3,10),(4,10),(5,10),(6,10),(7,10),(8,10),(9,10),(0,11),(1,11),(2,11),(3,11),(4,11),(5,11),(6,11),(7,11),(8,11),(9,11),(10,11),(0,12),(1,12),(2,12),(3,12),(4,12),(5,12),(6,12),(7,12),(8,12),(9,12),(0,13),(1,13),(2,13),(3,13),(4,13),(5,13),(6,13),(7,13),(8,13),(9,13),(2,14),(3,14),(4,14),(2,15),(3,15),(4,15)]∧RR zy9 [oo 31 (oM 7),oo 32 (oC .sub 3 31 1),oo 7 (oG 32)]∧RI zi7 (.seq (.seq (zza) (.cond (.tmp 30) (.skip) (.exit 2))) (.seq (.block 3 (zy8)) (zy9)))∧ze T 234 zi7 [0,1,2,6,7]∧RR zlf [oo 13 (oM 6),oo 14 (oC .add 3 13 1),oo 6 (oG 14)]∧RI zfy (.seq (.seq (zzc) (.cond (.tmp 12) (.skip) (.exit 0))) (.seq (.block 1 (.seq (zzb) (.block 2 (.loop zi7)))) (zlf)))∧ze T 234 zfy [0,1,2,6]∧zw T 234 [] true:=by refine⟨zz T ?_,zz T ?_,zz T ?_,xv T (id:=4) ?_ ?_,xv T (id:=6) ?_ ?_,zz T ?_,zr T ?_,zo T ?_,zz T ?_,zr T ?_,zo T ?_,zy T (F:=f234) ?_ ?_ ?_⟩<;>kernel_rfl
@[go_sem]theorem fr184:xd T 184 false none false∧zf T 184 4:=by refine⟨⟨?_,?_,?_⟩,zh T (F:=f184) ?_ ?_⟩<;>kernel_rfl
def zy1:=nv 2 f240
def zy0:=nv 6 f240
theorem xcu:xc T 240 17 (.seq (zy1) (.seq (zy0) (.ret))):=zk T (F:=f240) (by kernel_rfl) (by kernel_rfl) (by kernel_rfl)
@[go_sem↓]theorem run240:RR zy1 [oo 4 (.assign (.const (.bool false)))]∧RR zy0 [oo 5 (oM 0),oo 6 (o1 184 5 3),oo 7 (oM 6),ot 8 (oM 1) 7,ot 9 (o1 184 8 3) 7,ot 10 (.unOp .not 4 (.tmp 9)) 7,oo 11 (.pick (.tmp 7) (.tmp 10) (.const (.bool false))),oo 12 (oM 11),of 13 (oM 0) 12,of 14 (oM 1) 12,of 15 (oB .lss 3 13 14) 12,oo 16 (.pick (.tmp 12) (.const (.bool true)) (.tmp 15)),oo 4 (oG 16)]∧zw T 240 [.tmp 4] false:=by refine⟨zz T ?_,zz T ?_,zy T (F:=f240) ?_ ?_ ?_⟩<;>kernel_rfl
def ydf:=nv 2 f184
def yde:=nv 6 f184
theorem xdg:xc T 184 6 (.seq (ydf) (.seq (yde) (.ret))):=zk T (F:=f184) (by kernel_rfl) (by kernel_rfl) (by kernel_rfl)
@[go_sem↓]theorem run184:RR ydf [oo 2 (.assign (.const (.bool false)))]∧RR yde [oo 3 (oM 0),oo 4 (oM 0),oo 5 (oB .neq 3 3 4),oo 2 (oG 5)]∧zw T 184 [.tmp 2] false:=by refine⟨zz T ?_,zz T ?_,zy T (F:=f184) ?_ ?_ ?_⟩<;>kernel_rfl
@[go_sem]theorem fr79:xd T 79 false none false∧zf T 79 173:=by refine⟨⟨?_,?_,?_⟩,zh T (F:=f79) ?_ ?_⟩<;>kernel_rfl
@[go_sem]theorem fr87:xd T 87 false none false∧zf T 87 22:=by refine⟨⟨?_,?_,?_⟩,zh T (F:=f87) ?_ ?_⟩<;>kernel_rfl
@[go_sem]theorem fr52:xd T 52 false none false∧zf T 52 4:=by refine⟨⟨?_,?_,?_⟩,zh T (F:=f52) ?_ ?_⟩<;>kernel_rfl
@[go_sem]theorem fr146:xd T 146 false none false∧zf T 146 233:=by refine⟨⟨?_,?_,?_⟩,zh T (F:=f146) ?_ ?_⟩<;>kernel_rfl
@[go_sem]theorem fr189:xd T 189 true none true∧zf T 189 233:=by refine⟨⟨?_,?_,?_⟩,zh T (F:=f189) ?_ ?_⟩<;>kernel_rfl
@[go_sem]theorem fr190:xd T 190 true none false∧zf T 190 52:=by refine⟨⟨?_,?_,?_⟩,zh T (F:=f190) ?_ ?_⟩<;>kernel_rfl
def yf5:=nv 2 f146
def yf4:=nv 6 f146
def yf1:=nv 28 f146
def zf0:=nv 116 f146
def yf0:=nv 232 f146
def yfz:=nv 3736 f146
def yfy:=nv 7474 f146
def yfx:=nv 14950 f146
def zjp:=nv 59804 f146
def yfw:=nv 119608 f146
def yfv:=nv 1913752 f146
def yfu:=nv 3827506 f146
def yf3:=nv 3827507 f146
def yf2:=nv 478439 f146
def zlw:=nv 935 f146
def zgx:=nv 30 f146
theorem xdw:xc T 146 64 (.seq (yf5) (.seq (yf4) (.seq (.seq (yf1) (.block 0 (.loop zf0))) (.seq (zgx) (.ret))))):=zk T (F:=f146) (by kernel_rfl) (by kernel_rfl) (by kernel_rfl)
@[go_sem↓]theorem run146:RR yf5 [oo 2 (.box 44 (.tmp 0)),oo 4 on]∧RR yf4 [oo 11 (oF 44 2 0),oo 12 (oL 31 11),oo 13 (.call ⟨.value (.func 189),#[.tmp 12,.func 190],#[31,271]⟩),oo 5 (oG 13)]∧RR yf1 [oo 14 (oM 1),oo 15 (oN 14 35),oo 16 (.move (.const (.int .i64 0)))]∧RR yf0 [oo 17 (oB .lss 3 16 15)]∧RR yfz [oo 18 (oI 35 14 16),oo 19 (oL 3 18),oo 7 (oG 19)]∧RR yfy [oo 20 (oF 44 2 2),oo 21 (oL 42 20),oo 22 (oM 7),oo 23 (oI 42 21 22),oo 24 (oL 141 23),oo 8 (.alloc 141),ow 141 8 24]∧RR yfx [oo 25 (oF 141 8 2),oo 26 (oL 52 25),oo 27 (oN 26 52),oo 28 (.move (.const (.int .i64 0)))]∧RR yfw [oo 29 (oB .lss 3 28 27)]∧RR yfv [oo 30 (oM 28),oo 31 (oI 52 26 28),oo 32 (oL 56 31),oo 10 (.alloc 56),oo 9 (oG 30),ow 56 10 32]∧RD yfu 146 [oo 33 (oM 5),oo 34 (oF 141 8 1),oo 35 (oL 3 34),oo 36 (oI 233 33 35),oo 37 (oL 52 36),oo 38 (oM 9),oo 39 (oI 52 37 38),oo 40 (oF 56 39 0),oo 41 (oL 3 40),oo 42 (oF 56 10 0),oo 43 (oL 3 42),oo 44 (oB .add 3 41 43),oo 45 (oI 52 37 38),oo 46 (oF 56 45 0),ow 3 46 44] [(0,1),(0,2),(0,5),(1,5),(2,5),(3,5),(4,5),(0,9),(1,9),(2,9),(3,9),(4,9),(5,9),(6,9),(7,9),(8,9),(0,10),(1,10),(2,10),(3,10),(4,10),(5,10),(6,10),(7,10),(8,10)]∧RD yf3 146 [oo 47 (oM 5),oo 48 (oF 141 8 1),oo 49 (oL 3 48),oo 50 (oI 233 47 49),oo 51 (oL 52 50),oo 52 (oM 9),oo 53 (oI 52 51 52),oo 54 (oF 56 53 1),oo 55 (oL 3 54),oo 56 (oF 56 10 1),oo 57 (oL 3 56),oo 58 (oB .add 3 55 57),oo 59 (oI 52 51 52),oo 60 (oF 56 59 1),ow 3 60 58] [(0,1),(0,2),(0,5),(1,5),(2,5),(3,5),(4,5),(0,9),(1,9),(2,9),(3,9),(4,9),(5,9),(6,9),(7,9),(8,9),(0,10),(1,10),(2,10),(3,10),(4,10),(5,10),(6,10),(7,10),(8,10)]∧RR yf2 [oo 61 (oC .add 3 28 1),oo 28 (oM 61)]∧RI zjp (.seq (yfw) (.seq (.cond (.tmp 29) (.skip) (.exit 2)) (.seq (.block 3 (.seq (yfv) (.seq (yfu) (yf3)))) (yf2))))∧ze T 146 zjp [2,5,8,14,15,16,26,27,28]∧RR zlw [oo 62 (oC .add 3 16 1),oo 16 (oM 62)]∧RI zf0 (.seq (yf0) (.seq (.cond (.tmp 17) (.skip) (.exit 0)) (.seq (.block 1 (.seq (yfz) (.seq (yfy) (.seq (yfx) (.block 2 (.loop zjp)))))) (zlw))))∧ze T 146 zf0 [2,5,14,15,16]∧RR zgx [oo 63 (oM 5),oo 4 (oG 63)]∧zw T 146 [.tmp 4] false:=by refine⟨zz T ?_,zz T ?_,zz T ?_,zz T ?_,zz T ?_,zz T ?_,zz T ?_,zz T ?_,zz T ?_,xv T (id:=9) ?_ ?_,xv T (id:=10) ?_ ?_,zz T ?_,zr T ?_,zo T ?_,zz T ?_,zr T ?_,zo T ?_,zz T ?_,zy T (F:=f146) ?_ ?_ ?_⟩<;>kernel_rfl
@[go_sem]theorem fr150:xd T 150 false none false∧zf T 150 22:=by refine⟨⟨?_,?_,?_⟩,zh T (F:=f150) ?_ ?_⟩<;>kernel_rfl
def zrr:=nv 2 f87
def zrq:=nv 6 f87
theorem xbq:xc T 87 5 (.seq (zrr) (.seq (zrq) (.ret))):=zk T (F:=f87) (by kernel_rfl) (by kernel_rfl) (by kernel_rfl)
@[go_sem↓]theorem run87:RR zrr [oo 2 on]∧RR zrq [oo 3 (oM 0),oo 4 (.call ⟨.value (.func 150),#[.const (.slice none 0 0),.tmp 3],#[22,173]⟩),oo 2 (oG 4)]∧zw T 87 [.tmp 2] false:=by refine⟨zz T ?_,zz T ?_,zy T (F:=f87) ?_ ?_ ?_⟩<;>kernel_rfl
@[go_sem]theorem zag:xd T 147 false none false:=⟨by kernel_rfl,by kernel_rfl,by kernel_rfl⟩
@[go_sem]theorem zej:zcq T 147:=zek T (F:=f147) (by kernel_rfl) (by kernel_rfl)
def zsf:=nv 2 f79
def zse:=nv 6 f79
def zsd:=nv 14 f79
theorem xbx:xc T 79 13 (.seq (zsf) (.seq (zse) (.seq (zsd) (.ret)))):=zk T (F:=f79) (by kernel_rfl) (by kernel_rfl) (by kernel_rfl)
@[go_sem↓]theorem run79:RR zsf [oo 2 (.box 44 (.tmp 0)),oo 4 (.assign (.const (.nilFunc)))]∧RD zse 79 [oo 7 (oL 44 2),oo 8 (o1 145 7 44),oo 9 (oL 44 2),oo 10 (oM 1),oo 11 (o2 146 9 10 44 35),oo 5 (.alloc 31),oo 6 (.alloc 233),ow 31 5 8,ow 233 6 11] [(0,2),(1,2),(0,3),(1,3),(2,3),(0,5),(1,5),(2,5),(3,5),(4,5),(0,6),(1,6),(2,6),(3,6),(4,6),(5,6)]∧RR zsd [oo 12 (.makeFunc (.func 147) #[] #[.tmp 5,.tmp 6,.tmp 2]),oo 4 (oG 12)]∧zw T 79 [.tmp 4] false:=by refine⟨zz T ?_,xv T (id:=1) ?_ ?_,zz T ?_,zy T (F:=f79) ?_ ?_ ?_⟩<;>kernel_rfl
def zva:=nv 2 f52
def zu9:=nv 12 f52
def yk:=nv 52 f52
def yz:=nv 53 f52
def zu8:=nv 212 f52
def zu7:=nv 14 f52
theorem xcg:xc T 52 9 (.seq (zva) (.seq (.seq (zu9) (.block 0 (.rangeFunc (.tmp 7) #[8] yk yz))) (.seq (zu7) (.ret)))):=zk T (F:=f52) (by kernel_rfl) (by kernel_rfl) (by kernel_rfl)
@[go_sem↓]theorem run52:RR zva [oo 2 (.box 44 (.tmp 0)),oo 4 (.alloc 4)]∧RR zu9 [oo 5 (oL 44 2),oo 6 (oM 1),oo 7 (o2 79 5 6 44 35)]∧RR zu8 [⟨none,.store 4 (.tmp 4) (.const (.bool false)),none⟩]∧RI yk (.skip)∧RI yz (.block 1 (.seq (zu8) (.ret)))∧RR zu7 [⟨none,.store 4 (.tmp 4) (.const (.bool true)),none⟩]∧zw T 52 [.cell 4 4] false:=by refine⟨zz T ?_,zz T ?_,zz T ?_,zr T ?_,zr T ?_,zz T ?_,zy T (F:=f52) ?_ ?_ ?_⟩<;>kernel_rfl
def ycn:=nv 2 f189
def ycm:=nv 6 f189
def ycl:=nv 28 f189
def zok:=nv 116 f189
def yck:=nv 232 f189
def ycj:=nv 3736 f189
def yci:=nv 3737 f189
def ych:=nv 935 f189
def ycg:=nv 30 f189
theorem zbo:xc T 189 22 (.seq (ycn) (.seq (ycm) (.seq (.seq (ycl) (.block 0 (.loop zok))) (.seq (ycg) (.ret))))):=zk T (F:=f189) (by kernel_rfl) (by kernel_rfl) (by kernel_rfl)
@[go_sem↓]theorem run189:RR ycn [oo 4 on]∧RR ycm [oo 5 on]∧RR ycl [oo 8 (oM 0),oo 9 (oN 8 31),oo 10 (.move (.const (.int .i64 0)))]∧RR yck [oo 11 (oB .lss 3 10 9)]∧RR ycj [oo 12 (oI 31 8 10),oo 13 (oL 35 12),oo 7 (oG 13)]∧RR yci [oo 14 (oM 5),oo 15 (oM 1),oo 16 (oM 7),oo 17 (.call ⟨.value (.tmp 15),#[.tmp 16],#[35]⟩),oo 18 (oS 233 17),oo 19 (oA 14 18 233),oo 5 (oG 19)]∧RR ych [oo 20 (oC .add 3 10 1),oo 10 (oM 20)]∧RI zok (.seq (yck) (.seq (.cond (.tmp 11) (.skip) (.exit 0)) (.seq (.block 1 (.seq (ycj) (yci))) (ych))))∧ze T 189 zok [1,5,8,9,10]∧RR ycg [oo 21 (oM 5),oo 4 (oG 21)]∧zw T 189 [.tmp 4] true:=by refine⟨zz T ?_,zz T ?_,zz T ?_,zz T ?_,zz T ?_,zz T ?_,zz T ?_,zr T ?_,zo T ?_,zz T ?_,zy T (F:=f189) ?_ ?_ ?_⟩<;>kernel_rfl
def yca:=nv 2 f190
def yb9:=nv 6 f190
theorem xda:xc T 190 6 (.seq (yca) (.seq (yb9) (.ret))):=zk T (F:=f190) (by kernel_rfl) (by kernel_rfl) (by kernel_rfl)
@[go_sem↓]theorem run190:RR yca [oo 2 on]∧RR yb9 [oo 3 (oM 0),oo 4 (oN 3 35),oo 5 (.makeSlice 52 (.tmp 4) (.tmp 4)),oo 2 (oG 5)]∧zw T 190 [.tmp 2] true:=by refine⟨zz T ?_,zz T ?_,zy T (F:=f190) ?_ ?_ ?_⟩<;>kernel_rfl
def ye8:=nv 2 f150
def ye7:=nv 12 f150
def zcp:=nv 52 f150
def zcl:=nv 53 f150
def ye6:=nv 52 f150
def ye5:=nv 106 f150
def ye4:=nv 14 f150
theorem xds:xc T 150 13 (.seq (ye8) (.seq (.seq (ye7) (.block 0 (.rangeFunc (.tmp 6) #[7] zcp zcl))) (.seq (ye4) (.ret)))):=zk T (F:=f150) (by kernel_rfl) (by kernel_rfl) (by kernel_rfl)
@[go_sem↓]theorem run150:RR ye8 [oo 2 (.box 22 (.tmp 0)),oo 4 on]∧RR ye7 [oo 6 (oM 1)]∧RR ye6 [oo 5 (.alloc 76),ow 76 5 7]∧RR ye5 [oo 8 (oL 22 2),oo 9 (oL 76 5),oo 10 (oS 22 9),oo 11 (oA 8 10 22),ow 22 2 11]∧RI zcp (ye6)∧RI zcl (.block 1 (ye5))∧RR ye4 [oo 12 (oL 22 2),oo 4 (oG 12)]∧zw T 150 [.tmp 4] false:=by refine⟨zz T ?_,zz T ?_,zz T ?_,zz T ?_,zr T ?_,zr T ?_,zz T ?_,zy T (F:=f150) ?_ ?_ ?_⟩<;>kernel_rfl
def yft:=nv 2 f147
def zfz:=nv 12 f147
def yfs:=nv 24 f147
def yfr:=nv 408 f147
def yfq:=nv 818 f147
def zjo:=nv 3276 f147
def yfp:=nv 6552 f147
def yfo:=nv 104856 f147
def yfn:=nv 209714 f147
def yfm:=nv 419430 f147
def yfl:=nv 26215 f147
def zlv:=nv 103 f147
theorem xdv:xc T 147 57 (.seq (yft) (.block 0 (.loop zfz))):=zk T (F:=f147) (by kernel_rfl) (by kernel_rfl) (by kernel_rfl)
@[go_sem↓]theorem run147:RR yft [oo 10 (oL 31 1),oo 11 (oN 10 31),oo 12 (.move (.const (.int .i64 0)))]∧RR yfs [oo 13 (oB .lss 3 12 11)]∧RR yfr [oo 14 (oM 12),oo 15 (oI 31 10 12),oo 16 (oL 35 15),oo 5 (oG 14),oo 6 (oG 16)]∧RR yfq [oo 17 (oM 6),oo 18 (oN 17 35),oo 19 (.move (.const (.int .i64 0)))]∧RR yfp [oo 20 (oB .lss 3 19 18)]∧RR yfo [oo 21 (oM 19),oo 22 (oI 35 17 19),oo 23 (oL 3 22),oo 7 (oG 21),oo 8 (oG 23)]∧RR yfn [oo 24 (oL 233 2),oo 25 (oM 5),oo 26 (oI 233 24 25),oo 27 (oL 52 26),oo 28 (oM 7),oo 29 (oI 52 27 28),oo 30 (oL 56 29),oo 9 (.alloc 56),ow 56 9 30]∧RR yfm [oo 31 (oM 8),oo 32 (oF 56 9 0),oo 33 (oL 3 32),oo 34 (oF 44 3 1),oo 35 (oL 3 34),oo 36 (oB .sub 3 33 35),oo 37 (oB .lss 3 31 36),oo 38 (oM 37),of 39 (oM 8) 38,of 40 (oF 56 9 1) 38,of 41 (oL 3 40) 38,of 42 (oF 44 3 1) 38,of 43 (oL 3 42) 38,of 44 (oB .add 3 41 43) 38,of 45 (oB .gtr 3 39 44) 38,oo 46 (.pick (.tmp 38) (.const (.bool true)) (.tmp 45)),oo 47 (oM 46),ot 48 (oM 0) 47,ot 49 (oM 5) 47,ot 50 (oM 7) 47,ot 51 (.build 76 #[(0,.tmp 49),(1,.tmp 50)]) 47,ot 52 (.call ⟨.value (.tmp 48),#[.tmp 51],#[76]⟩) 47,ot 53 (.unOp .not 4 (.tmp 52)) 47,oo 54 (.pick (.tmp 47) (.tmp 53) (.const (.bool false)))]∧RR yfl [oo 55 (oC .add 3 19 1),oo 19 (oM 55)]∧RI zjo (.seq (yfp) (.seq (.cond (.tmp 20) (.skip) (.exit 2)) (.seq (.block 3 (.seq (yfo) (.seq (yfn) (.seq (yfm) (.cond (.tmp 54) (.ret) (.skip)))))) (yfl))))∧ze T 147 zjo [0,2,3,5,10,11,12,17,18,19]∧RR zlv [oo 56 (oC .add 3 12 1),oo 12 (oM 56)]∧RI zfz (.seq (yfs) (.seq (.cond (.tmp 13) (.skip) (.exit 0)) (.seq (.block 1 (.seq (yfr) (.seq (yfq) (.block 2 (.loop zjo))))) (zlv))))∧ze T 147 zfz [0,2,3,10,11,12]∧zw T 147 [] false:=by refine⟨zz T ?_,zz T ?_,zz T ?_,zz T ?_,zz T ?_,zz T ?_,zz T ?_,zz T ?_,zz T ?_,zr T ?_,zo T ?_,zz T ?_,zr T ?_,zo T ?_,zy T (F:=f147) ?_ ?_ ?_⟩<;>kernel_rfl
@[go_sem]theorem fr140:xd T 140 false none false∧zf T 140 3:=by refine⟨⟨?_,?_,?_⟩,zh T (F:=f140) ?_ ?_⟩<;>kernel_rfl
@[go_sem]theorem fr141:xd T 141 false none false∧zf T 141 3:=by refine⟨⟨?_,?_,?_⟩,zh T (F:=f141) ?_ ?_⟩<;>kernel_rfl
@[go_sem]theorem fr142:xd T 142 false none false∧zf T 142 3:=by refine⟨⟨?_,?_,?_⟩,zh T (F:=f142) ?_ ?_⟩<;>kernel_rfl
@[go_sem]theorem fr143:xd T 143 false none false∧zf T 143 3:=by refine⟨⟨?_,?_,?_⟩,zh T (F:=f143) ?_ ?_⟩<;>kernel_rfl
def yg8:=nv 2 f140
def yg7:=nv 6 f140
theorem xd1:xc T 140 15 (.seq (yg8) (.seq (yg7) (.ret))):=zk T (F:=f140) (by kernel_rfl) (by kernel_rfl) (by kernel_rfl)
@[go_sem↓]theorem run140:RR yg8 [oo 4 (oi 0)]∧RR yg7 [oo 5 (oM 0),oo 6 (oN 5 35),oo 7 (oM 1),oo 8 (oN 7 35),oo 9 (o2 142 6 8 3 3),oo 10 (oM 0),oo 11 (oM 1),oo 12 (o2 143 10 11 35 35),oo 13 (.buildSlice 35 2 #[(0,.tmp 9),(1,.tmp 12)]),oo 14 (o1 141 13 35),oo 4 (oG 14)]∧zw T 140 [.tmp 4] false:=by refine⟨zz T ?_,zz T ?_,zy T (F:=f140) ?_ ?_ ?_⟩<;>kernel_rfl
def yg6:=nv 2 f141
def yg5:=nv 6 f141
def yg4:=nv 28 f141
def zom:=nv 116 f141
def yg3:=nv 232 f141
def yg2:=nv 3736 f141
def yg1:=nv 7474 f141
def yg0:=nv 29900 f141
def ygz:=nv 935 f141
def ygy:=nv 30 f141
theorem xd0:xc T 141 18 (.seq (yg6) (.seq (yg5) (.seq (.seq (yg4) (.block 0 (.loop zom))) (.seq (ygy) (.ret))))):=zk T (F:=f141) (by kernel_rfl) (by kernel_rfl) (by kernel_rfl)
@[go_sem↓]theorem run141:RR yg6 [oo 2 (oi 0)]∧RR yg5 [oo 3 (oi 0)]∧RR yg4 [oo 6 (oM 0),oo 7 (oN 6 35),oo 8 (.move (.const (.int .i64 0)))]∧RR yg3 [oo 9 (oB .lss 3 8 7)]∧RR yg2 [oo 10 (oI 35 6 8),oo 11 (oL 3 10),oo 5 (oG 11)]∧RR yg1 [oo 12 (oM 5),oo 13 (oM 3),oo 14 (oB .neq 3 12 13)]∧RR yg0 [oo 15 (oM 5),oo 2 (oG 15)]∧RR ygz [oo 16 (oC .add 3 8 1),oo 8 (oM 16)]∧RI zom (.seq (yg3) (.seq (.cond (.tmp 9) (.skip) (.exit 0)) (.seq (.block 1 (.seq (yg2) (.seq (yg1) (.cond (.tmp 14) (.seq (yg0) (.ret)) (.skip))))) (ygz))))∧ze T 141 zom [3,6,7,8]∧RR ygy [oo 17 (oM 3),oo 2 (oG 17)]∧zw T 141 [.tmp 2] false:=by refine⟨zz T ?_,zz T ?_,zz T ?_,zz T ?_,zz T ?_,zz T ?_,zz T ?_,zz T ?_,zr T ?_,zo T ?_,zz T ?_,zy T (F:=f141) ?_ ?_ ?_⟩<;>kernel_rfl
def ygx:=nv 2 f142
def ygw:=nv 6 f142
def ygr:=nv 14 f142
def ygq:=nv 60 f142
def ygp:=nv 488 f142
def ygo:=nv 1956 f142
def ygn:=nv 490 f142
def ygm:=nv 124 f142
def ygl:=nv 500 f142
def ygk:=nv 252 f142
def ygv:=nv 1012 f142
def ygu:=nv 508 f142
def ygt:=nv 2036 f142
def ygs:=nv 510 f142
theorem xdz:xc T 142 20 (.seq (ygx) (.seq (ygw) (.seq (ygr) (.seq (.seq (ygq) (.cond (.tmp 11) (.seq (.seq (ygp) (.cond (.tmp 12) (.seq (ygo) (.ret)) (.skip))) (.seq (ygn) (.ret))) (.skip))) (.seq (.seq (ygm) (.cond (.tmp 13) (.seq (ygl) (.ret)) (.skip))) (.seq (.seq (ygk) (.cond (.tmp 16) (.seq (ygv) (.ret)) (.skip))) (.seq (.seq (ygu) (.cond (.tmp 19) (.seq (ygt) (.ret)) (.skip))) (.seq (ygs) (.ret))))))))):=zk T (F:=f142) (by kernel_rfl) (by kernel_rfl) (by kernel_rfl)
@[go_sem↓]theorem run142:RR ygx [oo 4 (oi 0)]∧RR ygw [oo 7 (oM 0),oo 8 (o1 184 7 3),oo 5 (oG 8)]∧RR ygr [oo 9 (oM 1),oo 10 (o1 184 9 3),oo 6 (oG 10)]∧RR ygq [oo 11 (oM 5)]∧RR ygp [oo 12 (oM 6)]∧RR ygo [oo 4 (oi 0)]∧RR ygn [oo 4 (oi (-1))]∧RR ygm [oo 13 (oM 6)]∧RR ygl [oo 4 (oi 1)]∧RR ygk [oo 14 (oM 0),oo 15 (oM 1),oo 16 (oB .lss 3 14 15)]∧RR ygv [oo 4 (oi (-1))]∧RR ygu [oo 17 (oM 0),oo 18 (oM 1),oo 19 (oB .gtr 3 17 18)]∧RR ygt [oo 4 (oi 1)]∧RR ygs [oo 4 (oi 0)]∧zw T 142 [.tmp 4] false:=by refine⟨zz T ?_,zz T ?_,zz T ?_,zz T ?_,zz T ?_,zz T ?_,zz T ?_,zz T ?_,zz T ?_,zz T ?_,zz T ?_,zz T ?_,zz T ?_,zz T ?_,zy T (F:=f142) ?_ ?_ ?_⟩<;>kernel_rfl
def ygj:=nv 2 f143
def ygi:=nv 12 f143
def zjq:=nv 52 f143
def ygg:=nv 104 f143
def ygf:=nv 1688 f143
def yge:=nv 6756 f143
def ygd:=nv 27028 f143
def ygc:=nv 6758 f143
def ygb:=nv 13518 f143
def yga:=nv 27038 f143
def yf9:=nv 108156 f143
def ygh:=nv 423 f143
def zlz:=nv 28 f143
def zly:=nv 116 f143
def zlx:=nv 30 f143
theorem xdy:xc T 143 36 (.seq (ygj) (.seq (.seq (ygi) (.block 0 (.loop zjq))) (.seq (.seq (zlz) (.cond (.tmp 35) (.seq (zly) (.ret)) (.skip))) (.seq (zlx) (.ret))))):=zk T (F:=f143) (by kernel_rfl) (by kernel_rfl) (by kernel_rfl)
@[go_sem↓]theorem run143:RR ygj [oo 4 (oi 0)]∧RR ygi [oo 9 (oM 0),oo 10 (oN 9 35),oo 11 (.move (.const (.int .i64 0)))]∧RR ygg [oo 12 (oB .lss 3 11 10)]∧RR ygf [oo 13 (oM 11),oo 14 (oI 35 9 11),oo 15 (oL 3 14),oo 5 (oG 13),oo 6 (oG 15)]∧RR yge [oo 16 (oM 5),oo 17 (oM 1),oo 18 (oN 17 35),oo 19 (oB .geq 3 16 18)]∧RR ygd [oo 4 (oi 1)]∧RR ygc [oo 20 (oM 1),oo 21 (oM 5),oo 22 (oI 35 20 21),oo 23 (oL 3 22),oo 7 (oG 23)]∧RR ygb [oo 24 (oM 6),oo 25 (oM 7),oo 26 (o2 142 24 25 3 3),oo 8 (oG 26)]∧RR yga [oo 27 (oM 8),oo 28 (oC .neq 3 27 0)]∧RR yf9 [oo 29 (oM 8),oo 4 (oG 29)]∧RR ygh [oo 30 (oC .add 3 11 1),oo 11 (oM 30)]∧RI zjq (.seq (ygg) (.seq (.cond (.tmp 12) (.skip) (.exit 0)) (.seq (.block 1 (.seq (ygf) (.seq (.seq (yge) (.cond (.tmp 19) (.seq (ygd) (.ret)) (.skip))) (.seq (ygc) (.seq (ygb) (.seq (yga) (.cond (.tmp 28) (.seq (yf9) (.ret)) (.skip)))))))) (ygh))))∧ze T 143 zjq [0,1,9,10,11]∧RR zlz [oo 31 (oM 0),oo 32 (oN 31 35),oo 33 (oM 1),oo 34 (oN 33 35),oo 35 (oB .lss 3 32 34)]∧RR zly [oo 4 (oi (-1))]∧RR zlx [oo 4 (oi 0)]∧zw T 143 [.tmp 4] false:=by refine⟨zz T ?_,zz T ?_,zz T ?_,zz T ?_,zz T ?_,zz T ?_,zz T ?_,zz T ?_,zz T ?_,zz T ?_,zz T ?_,zr T ?_,zo T ?_,zz T ?_,zz T ?_,zz T ?_,zy T (F:=f143) ?_ ?_ ?_⟩<;>kernel_rfl
@[go_sem]theorem fr12:xd T 12 false none false∧zak T 12 31 39 []:=by refine⟨⟨?_,?_,?_⟩,zab T (F:=f12) ?_ ?_⟩<;>kernel_rfl
@[go_sem]theorem fr53:xd T 53 true none false∧zak T 53 31 39 []:=by refine⟨⟨?_,?_,?_⟩,zab T (F:=f53) ?_ ?_⟩<;>kernel_rfl
@[go_sem]theorem zfd:xd T 54 true none false:=⟨by kernel_rfl,by kernel_rfl,by kernel_rfl⟩
@[go_sem]theorem res54:zf T 54 31:=zh T (F:=f54) (by kernel_rfl) (by kernel_rfl)
@[go_sem]theorem xaz:xd T 55 true none false:=⟨by kernel_rfl,by kernel_rfl,by kernel_rfl⟩
@[go_sem]theorem res55:zf T 55 4:=zh T (F:=f55) (by kernel_rfl) (by kernel_rfl)
def yis:=nv 2 f12
def yir:=nv 6 f12
def yiq:=nv 28 f12
def yip:=nv 116 f12
def yio:=nv 30 f12
theorem xeg:xc T 12 17 (.seq (yis) (.seq (yir) (.seq (.seq (yiq) (.cond (.tmp 12) (.seq (yip) (.ret)) (.skip))) (.seq (yio) (.ret))))):=zk T (F:=f12) (by kernel_rfl) (by kernel_rfl) (by kernel_rfl)
@[go_sem↓]theorem run12:RR yis [oo 1 (.box 44 (.tmp 0)),oo 2 on,oo 3 (oi 0)]∧RR yir [oo 7 (oL 44 1),oo 8 (o1 53 7 44),oo 6 (oM 8),oo 9 (oX 6 0),oo 10 (oX 6 1),oo 4 (.alloc 31),ow 31 4 9,oo 5 (oG 10)]∧RR yiq [oo 11 (oM 5),oo 12 (oC .neq 39 11 0)]∧RR yip [oo 13 (oM 5),oo 2 on,oo 3 (oG 13)]∧RR yio [oo 14 (oL 31 4),oo 15 (.makeFunc (.func 55) #[] #[.tmp 4]),oo 16 (o2 54 14 15 31 140),oo 2 (oG 16),oo 3 (oi 0)]∧zw T 12 [.tmp 2,.tmp 3] false:=by refine⟨zz T ?_,zz T ?_,zz T ?_,zz T ?_,zz T ?_,zy T (F:=f12) ?_ ?_ ?_⟩<;>kernel_rfl
@[go_sem]theorem fr119:xd T 119 true none false∧zf T 119 31:=by refine⟨⟨?_,?_,?_⟩,zh T (F:=f119) ?_ ?_⟩<;>kernel_rfl
def zu6:=nv 2 f53
def zu5:=nv 12 f53
def zu4:=nv 26 f53
def zu3:=nv 108 f53
def zu2:=nv 14 f53
def zu1:=nv 30 f53
theorem xcf:xc T 53 18 (.seq (zu6) (.seq (.seq (zu5) (.seq (zu4) (.cond (.tmp 9) (.seq (zu3) (.ret)) (.skip)))) (.seq (zu2) (.seq (zu1) (.ret))))):=zk T (F:=f53) (by kernel_rfl) (by kernel_rfl) (by kernel_rfl)
@[go_sem↓]theorem run53:RR zu6 [oo 1 (.box 44 (.tmp 0)),oo 2 on,oo 3 (oi 0)]∧RR zu5 [oo 6 (oL 44 1),oo 7 (o1 59 6 44),oo 4 (oG 7)]∧RR zu4 [oo 8 (oM 4),oo 9 (oC .neq 39 8 0)]∧RR zu3 [oo 10 (oM 4),oo 2 on,oo 3 (oG 10)]∧RR zu2 [oo 11 (oL 44 1),oo 12 (o1 119 11 44),oo 5 (oG 12)]∧RR zu1 [oo 13 (oM 5),oo 14 (oM 5),oo 15 (oN 14 31),oo 16 (oC .eql 3 15 0),oo 17 (.call ⟨.value (.func 61),#[.tmp 16,.const (.int .i64 18)],#[4,39]⟩),oo 2 (oG 13),oo 3 (oG 17)]∧zw T 53 [.tmp 2,.tmp 3] true:=by refine⟨zz T ?_,zz T ?_,zz T ?_,zz T ?_,zz T ?_,zz T ?_,zy T (F:=f53) ?_ ?_ ?_⟩<;>kernel_rfl
@[go_sem]theorem ymp:xd T 120 true none false:=⟨by kernel_rfl,by kernel_rfl,by kernel_rfl⟩
@[go_sem]theorem res120:zf T 120 3:=zh T (F:=f120) (by kernel_rfl) (by kernel_rfl)
def zu0:=nv 2 f54
def zuz:=nv 6 f54
def zux:=nv 28 f54
def zuw:=nv 116 f54
def zuv:=nv 60 f54
def zfv:=nv 244 f54
def zuu:=nv 976 f54
def zus:=nv 3912 f54
def zur:=nv 7826 f54
def zuq:=nv 31308 f54
def zuy:=nv 31309 f54
def zut:=nv 979 f54
def zgs:=nv 62 f54
def zgr:=nv 126 f54
theorem ymz:xc T 54 42 (.seq (zu0) (.seq (zuz) (.seq (.seq (zux) (.cond (.tmp 12) (.seq (zuw) (.ret)) (.skip))) (.seq (.seq (zuv) (.block 0 (.loop zfv))) (.seq (zgs) (.seq (zgr) (.ret))))))):=zk T (F:=f54) (by kernel_rfl) (by kernel_rfl) (by kernel_rfl)
@[go_sem↓]theorem run54:RR zu0 [oo 4 on]∧RR zuz [oo 8 (oM 0),oo 9 (oM 1),oo 10 (o2 120 8 9 31 140),oo 5 (oG 10)]∧RR zux [oo 11 (oM 5),oo 12 (oC .eql 3 11 (-1))]∧RR zuw [oo 13 (oM 0),oo 4 (oG 13)]∧RR zuv [oo 14 (oM 5),oo 15 (oC .add 3 14 1),oo 6 (oG 15)]∧RR zuu [oo 16 (oM 6),oo 17 (oM 0),oo 18 (oN 17 31),oo 19 (oB .lss 3 16 18)]∧RR zus [oo 22 (oM 0),oo 23 (oM 6),oo 24 (oI 31 22 23),oo 25 (oL 35 24),oo 7 (oG 25)]∧RR zur [oo 26 (oM 1),oo 27 (oM 7),oo 28 (.call ⟨.value (.tmp 26),#[.tmp 27],#[35]⟩),oo 29 (.unOp .not 4 (.tmp 28))]∧RR zuq [oo 30 (oM 0),oo 31 (oM 5),oo 32 (oM 7),oo 33 (oI 31 30 31),ow 35 33 32]∧RR zuy [oo 34 (oM 5),oo 35 (oC .add 3 34 1),oo 5 (oG 35)]∧RR zut [oo 20 (oM 6),oo 21 (oC .add 3 20 1),oo 6 (oG 21)]∧RI zfv (.seq (.seq (zuu) (.cond (.tmp 19) (.skip) (.exit 0))) (.seq (.block 1 (.seq (zus) (.seq (zur) (.cond (.tmp 29) (.seq (zuq) (zuy)) (.skip))))) (zut)))∧ze T 54 zfv [0,1,5,6]∧RR zgs [oo 36 (oM 0),oo 37 (oM 5),oo 38 (.slice 31 (.tmp 36) (some (.tmp 37)) none none),⟨none,.call ⟨.builtin .clear,#[.tmp 38],#[31]⟩,none⟩]∧RR zgr [oo 39 (oM 0),oo 40 (oM 5),oo 41 (.slice 31 (.tmp 39) none (some (.tmp 40)) none),oo 4 (oG 41)]∧zw T 54 [.tmp 4] true:=by refine⟨zz T ?_,zz T ?_,zz T ?_,zz T ?_,zz T ?_,zz T ?_,zz T ?_,zz T ?_,zz T ?_,zz T ?_,zz T ?_,zr T ?_,zo T ?_,zz T ?_,zz T ?_,zy T (F:=f54) ?_ ?_ ?_⟩<;>kernel_rfl
def zup:=nv 2 f55
def zuo:=nv 6 f55
theorem xce:xc T 55 11 (.seq (zup) (.seq (zuo) (.ret))):=zk T (F:=f55) (by kernel_rfl) (by kernel_rfl) (by kernel_rfl)
@[go_sem↓]theorem run55:RR zup [oo 3 (.assign (.const (.bool false)))]∧RR zuo [oo 4 (oM 0),oo 5 (oN 4 35),oo 6 (oL 31 1),oo 7 (.indexAddr 31 (.tmp 6) (.const (.int .i64 0))),oo 8 (oL 35 7),oo 9 (oN 8 35),oo 10 (oB .gtr 3 5 9),oo 3 (oG 10)]∧zw T 55 [.tmp 3] true:=by refine⟨zz T ?_,zz T ?_,zy T (F:=f55) ?_ ?_ ?_⟩<;>kernel_rfl
@[go_sem]theorem fr78:xd T 78 false none false∧zf T 78 170:=by refine⟨⟨?_,?_,?_⟩,zh T (F:=f78) ?_ ?_⟩<;>kernel_rfl
def ykg:=nv 2 f119
def ykf:=nv 6 f119
def yke:=nv 28 f119
def zf9:=nv 116 f119
def zfr:=nv 117 f119
def ykd:=nv 116 f119
def ykc:=nv 468 f119
def ykb:=nv 938 f119
def r119_6:=nv 30 f119
theorem xeh:xc T 119 18 (.seq (ykg) (.seq (ykf) (.seq (.seq (yke) (.block 0 (.rangeFunc (.tmp 8) #[9] zf9 zfr))) (.seq (r119_6) (.ret))))):=zk T (F:=f119) (by kernel_rfl) (by kernel_rfl) (by kernel_rfl)
@[go_sem↓]theorem run119:RR ykg [oo 1 (.box 44 (.tmp 0)),oo 2 on]∧RR ykf [oo 3 (.alloc 31)]∧RR yke [oo 5 (oF 44 1 2),oo 6 (oL 42 5),oo 7 (oN 6 42),oo 8 (o1 78 7 3)]∧RR ykd [oo 4 (oG 9)]∧RR ykc [oo 10 (oL 44 1),oo 11 (oM 4),oo 12 (o2 52 10 11 44 35)]∧RR ykb [oo 13 (oL 31 3),oo 14 (oM 4),oo 15 (oS 31 14),oo 16 (oA 13 15 31),ow 31 3 16]∧RI zf9 (ykd)∧RI zfr (.block 1 (.seq (ykc) (.cond (.tmp 12) (ykb) (.skip))))∧RR r119_6 [oo 17 (oL 31 3),oo 2 (oG 17)]∧zw T 119 [.tmp 2] true:=by refine⟨zz T ?_,zz T ?_,zz T ?_,zz T ?_,zz T ?_,zz T ?_,zr T ?_,zr T ?_,zz T ?_,zy T (F:=f119) ?_ ?_ ?_⟩<;>kernel_rfl
def yj1:=nv 2 f120
def yj0:=nv 12 f120
def zf2:=nv 52 f120
def yjz:=nv 104 f120
def yjy:=nv 1688 f120
def yjx:=nv 3378 f120
def yjw:=nv 13516 f120
def yjv:=nv 423 f120
def zgy:=nv 14 f120
theorem ym4:xc T 120 19 (.seq (yj1) (.seq (.seq (yj0) (.block 0 (.loop zf2))) (.seq (zgy) (.ret)))):=zk T (F:=f120) (by kernel_rfl) (by kernel_rfl) (by kernel_rfl)
@[go_sem↓]theorem run120:RR yj1 [oo 4 (oi 0)]∧RR yj0 [oo 6 (oM 0),oo 7 (oN 6 31),oo 8 (.move (.const (.int .i64 0)))]∧RR yjz [oo 9 (oB .lss 3 8 7)]∧RR yjy [oo 10 (oM 8),oo 5 (oG 10)]∧RR yjx [oo 11 (oM 1),oo 12 (oM 0),oo 13 (oM 5),oo 14 (oI 31 12 13),oo 15 (oL 35 14),oo 16 (.call ⟨.value (.tmp 11),#[.tmp 15],#[35]⟩)]∧RR yjw [oo 17 (oM 5),oo 4 (oG 17)]∧RR yjv [oo 18 (oC .add 3 8 1),oo 8 (oM 18)]∧RI zf2 (.seq (yjz) (.seq (.cond (.tmp 9) (.skip) (.exit 0)) (.seq (.block 1 (.seq (yjy) (.seq (yjx) (.cond (.tmp 16) (.seq (yjw) (.ret)) (.skip))))) (yjv))))∧ze T 120 zf2 [0,1,7,8]∧RR zgy [oo 4 (oi (-1))]∧zw T 120 [.tmp 4] true:=by refine⟨zz T ?_,zz T ?_,zz T ?_,zz T ?_,zz T ?_,zz T ?_,zz T ?_,zr T ?_,zo T ?_,zz T ?_,zy T (F:=f120) ?_ ?_ ?_⟩<;>kernel_rfl
@[go_sem]theorem zdu:xd T 185 false none false:=⟨by kernel_rfl,by kernel_rfl,by kernel_rfl⟩
@[go_sem]theorem zky:zcq T 185:=zek T (F:=f185) (by kernel_rfl) (by kernel_rfl)
def ydd:=nv 2 f185
def zjg:=nv 12 f185
def ydc:=nv 24 f185
def ydb:=nv 408 f185
def yda:=nv 818 f185
def yc9:=nv 103 f185
theorem xdf:xc T 185 16 (.seq (ydd) (.block 0 (.loop zjg))):=zk T (F:=f185) (by kernel_rfl) (by kernel_rfl) (by kernel_rfl)
@[go_sem↓]theorem run185:RR ydd [oo 5 (oL 31 1),oo 6 (oN 5 31),oo 7 (.move (.const (.int .i64 0)))]∧RR ydc [oo 8 (oB .lss 3 7 6)]∧RR ydb [oo 9 (oI 31 5 7),oo 10 (oL 35 9),oo 4 (oG 10)]∧RR yda [oo 11 (oM 0),oo 12 (oM 4),oo 13 (.call ⟨.value (.tmp 11),#[.tmp 12],#[35]⟩),oo 14 (.unOp .not 4 (.tmp 13))]∧RR yc9 [oo 15 (oC .add 3 7 1),oo 7 (oM 15)]∧RI zjg (.seq (ydc) (.seq (.cond (.tmp 8) (.skip) (.exit 0)) (.seq (.block 1 (.seq (ydb) (.seq (yda) (.cond (.tmp 14) (.ret) (.skip))))) (yc9))))∧ze T 185 zjg [0,5,6,7]∧zw T 185 [] false:=by refine⟨zz T ?_,zz T ?_,zz T ?_,zz T ?_,zz T ?_,zr T ?_,zo T ?_,zy T (F:=f185) ?_ ?_ ?_⟩<;>kernel_rfl
@[go_sem]theorem fr24:xd T 24 false none false∧zak T 24 22 39 []:=by refine⟨⟨?_,?_,?_⟩,zab T (F:=f24) ?_ ?_⟩<;>kernel_rfl
def zyu:=nv 2 f24
def zgk:=nv 6 f24
def zyt:=nv 12 f24
def zyr:=nv 52 f24
def zyq:=nv 212 f24
def zyp:=nv 54 f24
def zyo:=nv 444 f24
def zco:=nv 1780 f24
def zck:=nv 1781 f24
def zyn:=nv 1780 f24
def zym:=nv 14248 f24
def zyl:=nv 14250 f24
def zj4:=nv 57004 f24
def zim:=nv 57005 f24
def zyk:=nv 57004 f24
def zys:=nv 228020 f24
def r24_11:=nv 446 f24
theorem xcv:xc T 24 38 (.seq (zyu) (.scope zgk)):=zk T (F:=f24) (by kernel_rfl) (by kernel_rfl) (by kernel_rfl)
@[go_sem↓]theorem run24:RR zyu [oo 1 (.box 44 (.tmp 0)),oo 2 on,oo 3 (oi 0)]∧RR zyt [oo 10 (oL 44 1),oo 11 (o1 53 10 44),oo 9 (oM 11),oo 12 (oX 9 0),oo 13 (oX 9 1),oo 4 (.alloc 31),ow 31 4 12,oo 5 (oG 13)]∧RR zyr [oo 14 (oM 5),oo 15 (oC .neq 39 14 0)]∧RR zyq [oo 16 (oM 5),oo 2 on,oo 3 (oG 16)]∧RR zyp [oo 6 (.alloc 22)]∧RR zyo [oo 17 (oF 44 1 2),oo 18 (oL 42 17),oo 19 (oN 18 42),oo 20 (o1 78 19 3)]∧RR zyn [oo 7 (oG 21)]∧RR zym [oo 22 (oM 7),oo 23 (oN 22 35),oo 24 (oL 31 4),oo 25 (.indexAddr 31 (.tmp 24) (.const (.int .i64 0))),oo 26 (oL 35 25),oo 27 (oN 26 35),oo 28 (oB .geq 3 23 27)]∧RR zyl [oo 29 (oL 44 1),oo 30 (oM 7),oo 31 (o2 79 29 30 44 35)]∧RR zyk [oo 8 (.alloc 76),ow 76 8 32]∧RR zys [oo 33 (oL 22 6),oo 34 (oL 76 8),oo 35 (oS 22 34),oo 36 (oA 33 35 22),ow 22 6 36]∧RI zj4 (zyk)∧RI zim (.block 3 (.seq (zys) (.exit 1)))∧RI zco (zyn)∧RI zck (.block 1 (.seq (.seq (zym) (.cond (.tmp 28) (.exit 0) (.skip))) (.seq (zyl) (.block 2 (.rangeFunc (.tmp 31) #[32] zj4 zim)))))∧RR r24_11 [oo 37 (oL 22 6),oo 2 (oG 37),oo 3 (oi 0)]∧RI zgk (.seq (zyt) (.seq (.seq (zyr) (.cond (.tmp 15) (.seq (zyq) (.ret)) (.skip))) (.seq (zyp) (.seq (.label 0) (.seq (.seq (zyo) (.block 0 (.rangeFunc (.tmp 20) #[21] zco zck))) (.seq (r24_11) (.ret)))))))∧zw T 24 [.tmp 2,.tmp 3] false:=by refine⟨zz T ?_,zz T ?_,zz T ?_,zz T ?_,zz T ?_,zz T ?_,zz T ?_,zz T ?_,zz T ?_,zz T ?_,zz T ?_,zr T ?_,zr T ?_,zr T ?_,zr T ?_,zz T ?_,zr T ?_,zy T (F:=f24) ?_ ?_ ?_⟩<;>kernel_rfl
@[go_sem]theorem fr26:xd T 26 false none false∧zf T 26 39:=by refine⟨⟨?_,?_,?_⟩,zh T (F:=f26) ?_ ?_⟩<;>kernel_rfl
@[go_sem]theorem fr81:xd T 81 true none false∧zf T 81 31:=by refine⟨⟨?_,?_,?_⟩,zh T (F:=f81) ?_ ?_⟩<;>kernel_rfl
@[go_sem]theorem fr82:xd T 82 false none false∧zf T 82 4:=by refine⟨⟨?_,?_,?_⟩,zh T (F:=f82) ?_ ?_⟩<;>kernel_rfl
@[go_sem]theorem fr83:xd T 83 false none false∧zf T 83 39:=by refine⟨⟨?_,?_,?_⟩,zh T (F:=f83) ?_ ?_⟩<;>kernel_rfl
@[go_sem]theorem fr84:xd T 84 false none false∧zf T 84 148:=by refine⟨⟨?_,?_,?_⟩,zh T (F:=f84) ?_ ?_⟩<;>kernel_rfl
@[go_sem]theorem fr85:xd T 85 false none false∧zf T 85 4:=by refine⟨⟨?_,?_,?_⟩,zh T (F:=f85) ?_ ?_⟩<;>kernel_rfl
@[go_sem]theorem fr86:xd T 86 false none false∧zf T 86 4:=by refine⟨⟨?_,?_,?_⟩,zh T (F:=f86) ?_ ?_⟩<;>kernel_rfl
def zyb:=nv 2 f26
def zya:=nv 12 f26
def zx0:=nv 26 f26
def zxz:=nv 108 f26
def zxy:=nv 28 f26
def zxx:=nv 58 f26
def zxw:=nv 236 f26
def zxv:=nv 30 f26
def zxu:=nv 62 f26
def zxt:=nv 252 f26
def zx9:=nv 506 f26
def zx8:=nv 2028 f26
def zx7:=nv 508 f26
def zd4:=nv 2036 f26
def zx6:=nv 4072 f26
def zx5:=nv 65176 f26
def zx4:=nv 130354 f26
def zx3:=nv 260710 f26
def zx2:=nv 1042844 f26
def zx1:=nv 16295 f26
def zen:=nv 510 f26
theorem ym2:xc T 26 67 (.seq (zyb) (.seq (.seq (zya) (.seq (zx0) (.cond (.tmp 18) (.seq (zxz) (.ret)) (.skip)))) (.seq (.seq (zxy) (.seq (zxx) (.cond (.tmp 26) (.seq (zxw) (.ret)) (.skip)))) (.seq (zxv) (.seq (zxu) (.seq (.seq (zxt) (.seq (zx9) (.cond (.tmp 49) (.seq (zx8) (.ret)) (.skip)))) (.seq (.seq (zx7) (.block 0 (.loop zd4))) (.seq (zen) (.ret))))))))):=zk T (F:=f26) (by kernel_rfl) (by kernel_rfl) (by kernel_rfl)
@[go_sem↓]theorem run26:RR zyb [oo 3 (.box 44 (.tmp 0)),oo 4 (.box 3 (.tmp 1)),oo 5 (.box 22 (.tmp 2)),oo 6 (oi 0)]∧RR zya [oo 15 (oL 44 3),oo 16 (o1 59 15 44),oo 7 (oG 16)]∧RR zx0 [oo 17 (oM 7),oo 18 (oC .neq 39 17 0)]∧RR zxz [oo 19 (oM 7),oo 6 (oG 19)]∧RR zxy [oo 20 (oL 3 4),oo 21 (oF 44 3 2),oo 22 (oL 42 21),oo 23 (oN 22 42),oo 24 (.call ⟨.value (.func 80),#[.tmp 20,.const (.int .i64 0),.tmp 23],#[3,3,3]⟩),oo 8 (oG 24)]∧RR zxx [oo 25 (oM 8),oo 26 (oC .neq 39 25 0)]∧RR zxw [oo 27 (oM 8),oo 6 (oG 27)]∧RR zxv [oo 28 (oF 44 3 2),oo 29 (oL 42 28),oo 30 (oN 29 42),oo 31 (o1 78 30 3),oo 32 (o1 81 31 170),oo 33 (.makeFunc (.func 82) #[] #[.tmp 4]),oo 34 (o2 54 32 33 31 140),oo 9 (oG 34)]∧RR zxu [oo 35 (.makeFunc (.func 83) #[] #[.tmp 3]),oo 10 (oG 35)]∧RD zxt 26 [oo 36 (oM 9),oo 37 (oN 36 31),oo 38 (oL 22 5),oo 39 (oN 38 22),oo 40 (oB .neq 3 37 39),oo 41 (.call ⟨.value (.func 61),#[.tmp 40,.const (.int .i64 2)],#[4,39]⟩),oo 42 (oL 22 5),oo 43 (oM 10),oo 44 (o2 84 42 43 22 177),oo 45 (o1 60 44 148),oo 46 (.buildSlice 148 2 #[(0,.tmp 41),(1,.tmp 45)]),oo 47 (o1 60 46 148),oo 11 (oG 47)] [(0,2),(1,2),(0,3),(1,3),(0,6),(1,6),(2,6),(3,6),(4,6),(5,6),(0,7),(1,7),(2,7),(3,7),(4,7),(5,7),(6,7)]∧RR zx9 [oo 48 (oM 11),oo 49 (oC .neq 39 48 0)]∧RR zx8 [oo 50 (oM 11),oo 6 (oG 50)]∧RR zx7 [oo 51 (oM 9),oo 52 (oN 51 31),oo 53 (.move (.const (.int .i64 0)))]∧RR zx6 [oo 54 (oB .lss 3 53 52)]∧RR zx5 [oo 55 (oM 53),oo 56 (oI 31 51 53),oo 57 (oL 35 56),oo 12 (.alloc 3),ow 3 12 55,oo 13 (oG 57)]∧RR zx4 [oo 58 (.makeFunc (.func 85) #[] #[.tmp 5,.tmp 12]),oo 14 (oG 58)]∧RR zx3 [oo 59 (oL 44 3),oo 60 (oM 13),oo 61 (o2 79 59 60 44 35),oo 62 (o1 87 61 173),oo 63 (oM 14),oo 64 (o2 86 62 63 22 179),oo 65 (.unOp .not 4 (.tmp 64))]∧RR zx2 [oo 6 (oi 19)]∧RR zx1 [oo 66 (oC .add 3 53 1),oo 53 (oM 66)]∧RI zd4 (.seq (zx6) (.seq (.cond (.tmp 54) (.skip) (.exit 0)) (.seq (.block 1 (.seq (zx5) (.seq (zx4) (.seq (zx3) (.cond (.tmp 65) (.seq (zx2) (.ret)) (.skip)))))) (zx1))))∧ze T 26 zd4 [3,5,51,52,53]∧RR zen [oo 6 (oi 0)]∧zw T 26 [.tmp 6] false:=by refine⟨zz T ?_,zz T ?_,zz T ?_,zz T ?_,zz T ?_,zz T ?_,zz T ?_,zz T ?_,zz T ?_,xv T (id:=9) ?_ ?_,zz T ?_,zz T ?_,zz T ?_,zz T ?_,zz T ?_,zz T ?_,zz T ?_,zz T ?_,zz T ?_,zr T ?_,zo T ?_,zz T ?_,zy T (F:=f26) ?_ ?_ ?_⟩<;>kernel_rfl
@[go_sem]theorem fr148:xd T 148 true none false∧zf T 148 31:=by refine⟨⟨?_,?_,?_⟩,zh T (F:=f148) ?_ ?_⟩<;>kernel_rfl
def zr8:=nv 2 f81
def zr7:=nv 6 f81
theorem xbv:xc T 81 5 (.seq (zr8) (.seq (zr7) (.ret))):=zk T (F:=f81) (by kernel_rfl) (by kernel_rfl) (by kernel_rfl)
@[go_sem↓]theorem run81:RR zr8 [oo 2 on]∧RR zr7 [oo 3 (oM 0),oo 4 (.call ⟨.value (.func 148),#[.const (.slice none 0 0),.tmp 3],#[31,170]⟩),oo 2 (oG 4)]∧zw T 81 [.tmp 2] true:=by refine⟨zz T ?_,zz T ?_,zy T (F:=f81) ?_ ?_ ?_⟩<;>kernel_rfl
def zr6:=nv 2 f82
def zr5:=nv 6 f82
theorem xbu:xc T 82 8 (.seq (zr6) (.seq (zr5) (.ret))):=zk T (F:=f82) (by kernel_rfl) (by kernel_rfl) (by kernel_rfl)
@[go_sem↓]theorem run82:RR zr6 [oo 3 (.assign (.const (.bool false)))]∧RR zr5 [oo 4 (oM 0),oo 5 (oN 4 35),oo 6 (oL 3 1),oo 7 (oB .geq 3 5 6),oo 3 (oG 7)]∧zw T 82 [.tmp 3] false:=by refine⟨zz T ?_,zz T ?_,zy T (F:=f82) ?_ ?_ ?_⟩<;>kernel_rfl
def zr4:=nv 2 f83
def zr3:=nv 6 f83
theorem xbt:xc T 83 31 (.seq (zr4) (.seq (zr3) (.ret))):=zk T (F:=f83) (by kernel_rfl) (by kernel_rfl) (by kernel_rfl)
@[go_sem↓]theorem run83:RR zr4 [oo 2 (.box 76 (.tmp 0)),oo 3 (oi 0)]∧RD zr3 83 [oo 4 (oF 76 2 0),oo 5 (oL 3 4),oo 6 (oC .lss 3 5 0),oo 7 (oM 6),of 8 (oF 76 2 0) 7,of 9 (oL 3 8) 7,of 10 (oF 44 1 0) 7,of 11 (oL 31 10) 7,of 12 (oN 11 31) 7,of 13 (oB .geq 3 9 12) 7,oo 14 (.pick (.tmp 7) (.const (.bool true)) (.tmp 13)),oo 15 (oM 14),of 16 (oF 76 2 1) 15,of 17 (oL 3 16) 15,of 18 (oC .lss 3 17 0) 15,oo 19 (.pick (.tmp 15) (.const (.bool true)) (.tmp 18)),oo 20 (oM 19),of 21 (oF 76 2 1) 20,of 22 (oL 3 21) 20,of 23 (oF 44 1 0) 20,of 24 (oL 31 23) 20,of 25 (.indexAddr 31 (.tmp 24) (.const (.int .i64 0))) 20,of 26 (oL 35 25) 20,of 27 (oN 26 35) 20,of 28 (oB .geq 3 22 27) 20,oo 29 (.pick (.tmp 20) (.const (.bool true)) (.tmp 28)),oo 30 (.call ⟨.value (.func 61),#[.tmp 29,.const (.int .i64 10)],#[4,39]⟩),oo 3 (oG 30)] [(4,6),(5,6),(4,7),(5,7),(4,8),(5,8),(17,19),(18,19),(17,20),(18,20),(17,21),(18,21),(17,22),(18,22),(17,23),(18,23)]∧zw T 83 [.tmp 3] false:=by refine⟨zz T ?_,xv T (id:=1) ?_ ?_,zy T (F:=f83) ?_ ?_ ?_⟩<;>kernel_rfl
def zr2:=nv 2 f84
def zr1:=nv 6 f84
def zr0:=nv 28 f84
def ziv:=nv 116 f84
def zrz:=nv 232 f84
def zry:=nv 3736 f84
def zrx:=nv 3737 f84
def zrw:=nv 935 f84
def zk3:=nv 30 f84
theorem ymy:xc T 84 22 (.seq (zr2) (.seq (zr1) (.seq (.seq (zr0) (.block 0 (.loop ziv))) (.seq (zk3) (.ret))))):=zk T (F:=f84) (by kernel_rfl) (by kernel_rfl) (by kernel_rfl)
@[go_sem↓]theorem run84:RR zr2 [oo 4 on]∧RR zr1 [oo 5 on]∧RR zr0 [oo 8 (oM 0),oo 9 (oN 8 22),oo 10 (.move (.const (.int .i64 0)))]∧RR zrz [oo 11 (oB .lss 3 10 9)]∧RR zry [oo 12 (oI 22 8 10),oo 13 (oL 76 12),oo 7 (.alloc 76),ow 76 7 13]∧RR zrx [oo 14 (oM 5),oo 15 (oM 1),oo 16 (oL 76 7),oo 17 (.call ⟨.value (.tmp 15),#[.tmp 16],#[76]⟩),oo 18 (oS 148 17),oo 19 (oA 14 18 148),oo 5 (oG 19)]∧RR zrw [oo 20 (oC .add 3 10 1),oo 10 (oM 20)]∧RI ziv (.seq (zrz) (.seq (.cond (.tmp 11) (.skip) (.exit 0)) (.seq (.block 1 (.seq (zry) (zrx))) (zrw))))∧ze T 84 ziv [1,5,8,9,10]∧RR zk3 [oo 21 (oM 5),oo 4 (oG 21)]∧zw T 84 [.tmp 4] false:=by refine⟨zz T ?_,zz T ?_,zz T ?_,zz T ?_,zz T ?_,zz T ?_,zz T ?_,zr T ?_,zo T ?_,zz T ?_,zy T (F:=f84) ?_ ?_ ?_⟩<;>kernel_rfl
def zrv:=nv 2 f85
def zru:=nv 6 f85
theorem xbs:xc T 85 11 (.seq (zrv) (.seq (zru) (.ret))):=zk T (F:=f85) (by kernel_rfl) (by kernel_rfl) (by kernel_rfl)
@[go_sem↓]theorem run85:RR zrv [oo 3 (.box 76 (.tmp 0)),oo 4 (.assign (.const (.bool false)))]∧RD zru 85 [oo 5 (oL 76 3),oo 6 (oL 22 1),oo 7 (oL 3 2),oo 8 (oI 22 6 7),oo 9 (oL 76 8),oo 10 (oB .eql 76 5 9),oo 4 (oG 10)] [(0,1),(0,2),(1,2),(0,3),(0,4)]∧zw T 85 [.tmp 4] false:=by refine⟨zz T ?_,xv T (id:=1) ?_ ?_,zy T (F:=f85) ?_ ?_ ?_⟩<;>kernel_rfl
@[go_sem]theorem fr149:xd T 149 false none false∧zf T 149 3:=by refine⟨⟨?_,?_,?_⟩,zh T (F:=f149) ?_ ?_⟩<;>kernel_rfl
def zrt:=nv 2 f86
def zrs:=nv 6 f86
theorem xbr:xc T 86 9 (.seq (zrt) (.seq (zrs) (.ret))):=zk T (F:=f86) (by kernel_rfl) (by kernel_rfl) (by kernel_rfl)
@[go_sem↓]theorem run86:RR zrt [oo 4 (.assign (.const (.bool false)))]∧RR zrs [oo 5 (oM 0),oo 6 (oM 1),oo 7 (o2 149 5 6 22 179),oo 8 (oC .geq 3 7 0),oo 4 (oG 8)]∧zw T 86 [.tmp 4] false:=by refine⟨zz T ?_,zz T ?_,zy T (F:=f86) ?_ ?_ ?_⟩<;>kernel_rfl
def yfk:=nv 2 f148
def yfj:=nv 12 f148
def zf8:=nv 52 f148
def zfq:=nv 53 f148
def yfi:=nv 52 f148
def yfh:=nv 106 f148
def yfg:=nv 14 f148
theorem xdu:xc T 148 13 (.seq (yfk) (.seq (.seq (yfj) (.block 0 (.rangeFunc (.tmp 6) #[7] zf8 zfq))) (.seq (yfg) (.ret)))):=zk T (F:=f148) (by kernel_rfl) (by kernel_rfl) (by kernel_rfl)
@[go_sem↓]theorem run148:RR yfk [oo 2 (.box 31 (.tmp 0)),oo 4 on]∧RR yfj [oo 6 (oM 1)]∧RR yfi [oo 5 (oG 7)]∧RR yfh [oo 8 (oL 31 2),oo 9 (oM 5),oo 10 (oS 31 9),oo 11 (oA 8 10 31),ow 31 2 11]∧RI zf8 (yfi)∧RI zfq (.block 1 (yfh))∧RR yfg [oo 12 (oL 31 2),oo 4 (oG 12)]∧zw T 148 [.tmp 4] true:=by refine⟨zz T ?_,zz T ?_,zz T ?_,zz T ?_,zr T ?_,zr T ?_,zz T ?_,zy T (F:=f148) ?_ ?_ ?_⟩<;>kernel_rfl
def yff:=nv 2 f149
def yfe:=nv 12 f149
def zjn:=nv 52 f149
def yfd:=nv 104 f149
def yfc:=nv 1688 f149
def yfb:=nv 3378 f149
def yfa:=nv 13516 f149
def ye9:=nv 423 f149
def zlu:=nv 14 f149
theorem xdt:xc T 149 19 (.seq (yff) (.seq (.seq (yfe) (.block 0 (.loop zjn))) (.seq (zlu) (.ret)))):=zk T (F:=f149) (by kernel_rfl) (by kernel_rfl) (by kernel_rfl)
@[go_sem↓]theorem run149:RR yff [oo 4 (oi 0)]∧RR yfe [oo 6 (oM 0),oo 7 (oN 6 22),oo 8 (.move (.const (.int .i64 0)))]∧RR yfd [oo 9 (oB .lss 3 8 7)]∧RR yfc [oo 10 (oM 8),oo 5 (oG 10)]∧RR yfb [oo 11 (oM 1),oo 12 (oM 0),oo 13 (oM 5),oo 14 (oI 22 12 13),oo 15 (oL 76 14),oo 16 (.call ⟨.value (.tmp 11),#[.tmp 15],#[76]⟩)]∧RR yfa [oo 17 (oM 5),oo 4 (oG 17)]∧RR ye9 [oo 18 (oC .add 3 8 1),oo 8 (oM 18)]∧RI zjn (.seq (yfd) (.seq (.cond (.tmp 9) (.skip) (.exit 0)) (.seq (.block 1 (.seq (yfc) (.seq (yfb) (.cond (.tmp 16) (.seq (yfa) (.ret)) (.skip))))) (ye9))))∧ze T 149 zjn [0,1,7,8]∧RR zlu [oo 4 (oi (-1))]∧zw T 149 [.tmp 4] false:=by refine⟨zz T ?_,zz T ?_,zz T ?_,zz T ?_,zz T ?_,zz T ?_,zz T ?_,zr T ?_,zo T ?_,zz T ?_,zy T (F:=f149) ?_ ?_ ?_⟩<;>kernel_rfl
@[go_sem]theorem fr7:xd T 7 false none false∧zf T 7 4:=by refine⟨⟨?_,?_,?_⟩,zh T (F:=f7) ?_ ?_⟩<;>kernel_rfl
@[go_sem]theorem fr48:xd T 48 false none false∧zf T 48 4:=by refine⟨⟨?_,?_,?_⟩,zh T (F:=f48) ?_ ?_⟩<;>kernel_rfl
@[go_sem]theorem fr49:xd T 49 false none false∧zf T 49 3:=by refine⟨⟨?_,?_,?_⟩,zh T (F:=f49) ?_ ?_⟩<;>kernel_rfl
def zsc:=nv 2 f7
def zsb:=nv 6 f7
theorem zh8:xc T 7 27 (.seq (zsc) (.seq (zsb) (.ret))):=zk T (F:=f7) (by kernel_rfl) (by kernel_rfl) (by kernel_rfl)
@[go_sem↓]theorem run7:RR zsc [oo 1 (.box 28 (.tmp 0)),oo 2 (.assign (.const (.bool false)))]∧RR zsb [oo 3 (oF 28 1 0),oo 4 (oL 23 3),oo 5 (o1 48 4 23),oo 6 (oM 5),ot 7 (oF 28 1 0) 6,ot 8 (oL 23 7) 6,ot 9 (oF 28 1 1) 6,ot 10 (oL 3 9) 6,ot 11 (.build 138 #[(0,.tmp 8),(2,.tmp 10)]) 6,ot 12 (o1 49 11 138) 6,ot 13 (oC .eql 3 12 0) 6,oo 14 (.pick (.tmp 6) (.tmp 13) (.const (.bool false))),oo 15 (oM 14),ot 16 (oF 28 1 6) 15,ot 17 (oL 26 16) 15,ot 18 (oN 17 26) 15,ot 19 (oC .geq 3 18 1) 15,oo 20 (.pick (.tmp 15) (.tmp 19) (.const (.bool false))),oo 21 (oM 20),ot 22 (oF 28 1 6) 21,ot 23 (oL 26 22) 21,ot 24 (oN 23 26) 21,ot 25 (oC .leq 3 24 3) 21,oo 26 (.pick (.tmp 21) (.tmp 25) (.const (.bool false))),oo 2 (oG 26)]∧zw T 7 [.tmp 2] false:=by refine⟨zz T ?_,zz T ?_,zy T (F:=f7) ?_ ?_ ?_⟩<;>kernel_rfl
@[go_sem]theorem fr8:xd T 8 false none false∧zf T 8 4:=by refine⟨⟨?_,?_,?_⟩,zh T (F:=f8) ?_ ?_⟩<;>kernel_rfl
@[go_sem]theorem fr11:xd T 11 false none false∧zf T 11 44:=by refine⟨⟨?_,?_,?_⟩,zh T (F:=f11) ?_ ?_⟩<;>kernel_rfl
@[go_sem]theorem fr19:xd T 19 false none false∧zf T 19 62:=by refine⟨⟨?_,?_,?_⟩,zh T (F:=f19) ?_ ?_⟩<;>kernel_rfl
@[go_sem]theorem fr23:xd T 23 false none false∧zak T 23 9 39 []:=by refine⟨⟨?_,?_,?_⟩,zab T (F:=f23) ?_ ?_⟩<;>kernel_rfl
@[go_sem]theorem fr50:xd T 50 false none false∧zak T 50 3 39 []:=by refine⟨⟨?_,?_,?_⟩,zab T (F:=f50) ?_ ?_⟩<;>kernel_rfl
@[go_sem]theorem fr9:xd T 9 false none true∧zak T 9 34 36 [4]:=by refine⟨⟨?_,?_,?_⟩,zab T (F:=f9) ?_ ?_⟩<;>kernel_rfl
@[go_sem]theorem fr20:xd T 20 false none false∧zf T 20 35:=by refine⟨⟨?_,?_,?_⟩,zh T (F:=f20) ?_ ?_⟩<;>kernel_rfl
@[go_sem]theorem fr22:xd T 22 false none false∧zak T 22 3 4 []:=by refine⟨⟨?_,?_,?_⟩,zab T (F:=f22) ?_ ?_⟩<;>kernel_rfl
@[go_sem]theorem fr30:xd T 30 false none false∧zf T 30 9:=by refine⟨⟨?_,?_,?_⟩,zh T (F:=f30) ?_ ?_⟩<;>kernel_rfl
def zqv:=nv 2 f9
def zqu:=nv 6 f9
def zqj:=nv 14 f9
def zp8:=nv 30 f9
def zp3:=nv 124 f9
def zog:=nv 500 f9
def zp2:=nv 1000 f9
def zp1:=nv 16024 f9
def zp0:=nv 16025 f9
def zpz:=nv 4007 f9
def zpy:=nv 252 f9
def za2:=nv 1012 f9
def zqt:=nv 2024 f9
def zqs:=nv 32408 f9
def zqr:=nv 64818 f9
def zqq:=nv 129638 f9
def zqp:=nv 518556 f9
def zqo:=nv 2074228 f9
def zqn:=nv 1037116 f9
def zof:=nv 4148468 f9
def zqm:=nv 8296936 f9
def zql:=nv 132751000 f9
def zqk:=nv 132751001 f9
def zqi:=nv 33187751 f9
def zqh:=nv 1037118 f9
def zcm:=nv 4148476 f9
def zqg:=nv 8296952 f9
def zqf:=nv 132751256 f9
def zqe:=nv 265502514 f9
def zqd:=nv 1062010060 f9
def zqc:=nv 4248040244 f9
def zqb:=nv 1062010062 f9
def zqa:=nv 2124020126 f9
def zp9:=nv 4248040254 f9
def zp7:=nv 8496080510 f9
def zp6:=nv 16992161022 f9
def zp5:=nv 33984322046 f9
def zp4:=nv 33187815 f9
def zdd:=nv 8103 f9
def r9_35:=nv 254 f9
theorem xbo:xc T 9 168 (.seq (zqv) (.seq (zqu) (.seq (zqj) (.seq (zp8) (.seq (.seq (zp3) (.block 0 (.loop zog))) (.seq (.seq (zpy) (.block 2 (.loop za2))) (.seq (r9_35) (.ret)))))))):=zk T (F:=f9) (by kernel_rfl) (by kernel_rfl) (by kernel_rfl)
@[go_sem↓]theorem run9:RR zqv [oo 1 (.box 28 (.tmp 0)),oo 2 (.alloc 34),oo 3 (.alloc 36),oo 4 (.assign (.const (.bool false)))]∧RR zqu [oo 5 (.alloc 34)]∧RR zqj [oo 6 (.alloc 36)]∧RR zp8 [oo 19 (.makeSlice 31 (.const (.int .i64 7)) (.const (.int .i64 7))),oo 20 (oF 34 5 0),ow 31 20 19]∧RR zp3 [oo 21 (.move (.const (.int .i64 0)))]∧RR zp2 [oo 22 (oC .lss 3 21 3)]∧RR zp1 [oo 23 (oM 21),oo 7 (oG 23)]∧RD zp0 9 [oo 24 (oF 34 5 2),oo 25 (oL 32 24),oo 26 (oM 7),oo 27 (o1 30 26 3),oo 28 (oM 7),oo 29 (.binOp .mul 3 (.const (.int .i64 2)) (.tmp 28) 3),oo 30 (oC .add 3 29 1),oo 31 (.build 54 #[(0,.tmp 27),(1,.tmp 30)]),oo 32 (oS 32 31),oo 33 (oA 25 32 32),oo 34 (oF 34 5 2),ow 32 34 33] [(0,2),(1,2),(0,3),(1,3),(0,4),(1,4),(2,4),(3,4),(0,5),(1,5),(2,5),(3,5),(0,6),(1,6),(2,6),(3,6),(0,7),(1,7),(0,8),(1,8)]∧RR zpz [oo 35 (oC .add 3 21 1),oo 21 (oM 35)]∧RI zog (.seq (zp2) (.seq (.cond (.tmp 22) (.skip) (.exit 0)) (.seq (.block 1 (.seq (zp1) (zp0))) (zpz))))∧ze T 9 zog [1,2,3,5,6,21]∧RR zpy [oo 36 (oF 28 1 6),oo 37 (oL 26 36),oo 38 (oN 37 26),oo 39 (.move (.const (.int .i64 0)))]∧RR zqt [oo 40 (oB .lss 3 39 38)]∧RR zqs [oo 41 (oI 26 37 39),oo 42 (oL 24 41),oo 9 (oG 42)]∧RR zqr [oo 43 (oM 9),oo 44 (.convert 24 3 (.tmp 43)),oo 45 (oC .rem 3 44 801),oo 10 (oG 45)]∧RD zqq 9 [oo 47 (oL 28 1),oo 48 (oL 28 1),oo 49 (.call ⟨.value (.func 20),#[.tmp 48,.const (.int .i64 1000)],#[28,3]⟩),oo 50 (oM 10),oo 51 (.call ⟨.value (.func 22),#[.tmp 47,.tmp 49,.tmp 50],#[28,35,3]⟩),oo 46 (oM 51),oo 52 (oX 46 0),oo 53 (oX 46 1),oo 11 (oG 52),oo 12 (oG 53)] [(0,1),(0,2),(0,3),(1,3),(2,3),(6,7),(7,8)]∧RR zqp [oo 54 (oM 12),oo 55 (.unOp .not 4 (.tmp 54))]∧RD zqo 9 [oo 56 (oL 34 5),oo 57 (oL 36 6),ow 34 2 56,ow 36 3 57,oo 4 (.assign (.const (.bool false)))] [(0,1),(1,2)]∧RR zqn [oo 58 (oF 34 5 0),oo 59 (oL 31 58),oo 60 (oN 59 31),oo 61 (.move (.const (.int .i64 0)))]∧RR zqm [oo 62 (oB .lss 3 61 60)]∧RR zql [oo 63 (oM 61),oo 13 (oG 63)]∧RD zqk 9 [oo 64 (oF 34 5 0),oo 65 (oL 31 64),oo 66 (oM 13),oo 67 (oF 34 5 0),oo 68 (oL 31 67),oo 69 (oM 13),oo 70 (oI 31 68 69),oo 71 (oL 35 70),oo 72 (oM 11),oo 73 (oS 35 72),oo 74 (oA 71 73 35),oo 75 (oI 31 65 66),ow 35 75 74] [(0,2),(1,2),(0,3),(1,3),(2,3),(0,4),(1,4),(2,4),(0,5),(1,5),(2,5),(3,5),(4,5),(0,6),(1,6),(2,6),(0,7),(1,7),(2,7),(0,8),(1,8),(2,8),(3,8),(4,8),(5,8),(6,8),(7,8),(0,9),(1,9),(2,9),(3,9),(4,9),(5,9),(6,9),(7,9),(0,10),(1,10),(2,10)]∧RR zqi [oo 76 (oC .add 3 61 1),oo 61 (oM 76)]∧RI zof (.seq (zqm) (.seq (.cond (.tmp 62) (.skip) (.exit 4)) (.seq (.block 5 (.seq (zql) (zqk))) (zqi))))∧ze T 9 zof [1,2,3,5,6,10,11,37,38,39,60,61]∧RR zqh [oo 77 (.move (.const (.int .i64 0)))]∧RR zqg [oo 78 (oC .lss 3 77 3)]∧RR zqf [oo 79 (oM 77),oo 14 (oG 79)]∧RD zqe 9 [oo 81 (oL 28 1),oo 82 (oL 28 1),oo 83 (oM 14),oo 84 (oF 28 1 3),oo 85 (oI 25 84 83),oo 86 (oL 24 85),oo 87 (.convert 24 3 (.tmp 86)),oo 88 (oC .rem 3 87 1001),oo 89 (o2 20 82 88 28 3),oo 90 (oM 10),oo 91 (.call ⟨.value (.func 22),#[.tmp 81,.tmp 89,.tmp 90],#[28,35,3]⟩),oo 80 (oM 91),oo 92 (oX 80 0),oo 93 (oX 80 1),oo 15 (oG 92),oo 16 (oG 93)] [(0,1),(0,2),(1,2),(0,3),(1,3),(2,3),(0,4),(1,4),(0,5),(1,5),(0,6),(1,6),(0,7),(1,7),(0,8),(0,9),(1,9),(2,9),(3,9),(4,9),(5,9),(6,9),(7,9),(8,9),(12,13),(13,14)]∧RR zqd [oo 94 (oM 16),oo 95 (.unOp .not 4 (.tmp 94)),oo 96 (oM 95),of 97 (oM 15) 96,of 98 (oM 11) 96,of 99 (oB .gtr 3 97 98) 96,oo 100 (.pick (.tmp 96) (.const (.bool true)) (.tmp 99))]∧RD zqc 9 [oo 101 (oL 34 5),oo 102 (oL 36 6),ow 34 2 101,ow 36 3 102,oo 4 (.assign (.const (.bool false)))] [(0,1),(1,2)]∧RR zqb [oo 103 (oM 11),oo 104 (oM 15),oo 105 (oB .sub 3 103 104),oo 17 (oG 105)]∧RR zqa [oo 106 (oM 14),oo 107 (oM 14),oo 108 (oI 36 6 107),oo 109 (oL 35 108),oo 110 (oM 17),oo 111 (oS 35 110),oo 112 (oA 109 111 35),oo 113 (oI 36 6 106),ow 35 113 112]∧RR zp9 [oo 114 (oF 28 1 5),oo 115 (oL 5 114),oo 116 (.convert 5 3 (.tmp 115)),oo 117 (oC .rem 3 116 4),oo 18 (oG 117)]∧RD zp7 9 [oo 118 (oF 34 5 2),oo 119 (oL 32 118),oo 120 (oM 14),oo 121 (oF 34 5 2),oo 122 (oL 32 121),oo 123 (oM 14),oo 124 (oI 32 122 123),oo 125 (oF 54 124 2),oo 126 (oL 52 125),oo 127 (oM 17),oo 128 (oM 18),oo 129 (oB .sub 3 127 128),oo 130 (.call ⟨.builtin .max,#[.const (.int .i64 0),.tmp 129],#[3,3]⟩),oo 131 (oM 17),oo 132 (oM 18),oo 133 (oB .add 3 131 132),oo 134 (.call ⟨.builtin .min,#[.const (.int .i64 1000000),.tmp 133],#[3,3]⟩),oo 135 (.build 56 #[(0,.tmp 130),(1,.tmp 134)]),oo 136 (oS 52 135),oo 137 (oA 126 136 52),oo 138 (oI 32 119 120),oo 139 (oF 54 138 2),ow 52 139 137] [(0,2),(1,2),(0,3),(1,3),(2,3),(0,4),(1,4),(2,4),(0,5),(1,5),(2,5),(3,5),(4,5),(0,6),(1,6),(2,6),(0,7),(1,7),(2,7),(0,8),(1,8),(2,8),(0,9),(1,9),(2,9),(3,9),(4,9),(5,9),(6,9),(7,9),(8,9),(0,10),(1,10),(2,10),(3,10),(4,10),(5,10),(6,10),(7,10),(8,10),(9,10),(0,11),(1,11),(2,11),(3,11),(4,11),(5,11),(6,11),(7,11),(8,11),(0,12),(1,12),(2,12),(3,12),(4,12),(5,12),(6,12),(7,12),(8,12),(0,13),(1,13),(2,13),(3,13),(4,13),(5,13),(6,13),(7,13),(8,13),(9,13),(10,13),(11,13),(12,13),(0,14),(1,14),(2,14),(3,14),(4,14),(5,14),(6,14),(7,14),(8,14),(9,14),(10,14),(11,14),(12,14),(13,14),(0,15),(1,15),(2,15),(3,15),(4,15),(5,15),(6,15),(7,15),(8,15),(9,15),(10,15),(11,15),(12,15),(0,16),(1,16),(2,16),(3,16),(4,16),(5,16),(6,16),(7,16),(8,16),(9,16),(10,16),(11,16),(12,16),(0,17),(1,17),(2,17),(3,17),(4,17),(5,17),(6,17),(7,17),(8,17),(0,18),(1,18),(2,18),(3,18),(4,18),(5,18),(6,18),(7,18),(8,18),(0,19),(1,19),(2,19)]∧RR zp6 [oo 140 (oF 28 1 4),oo 141 (oL 5 140),oo 142 (oM 14),oo 143 (.binOp .shr 5 (.tmp 141) (.tmp 142) 3),oo 144 (.binOp .and 5 (.tmp 143) (.const (.int .u8 1)) 5),oo 145 (.binOp .eql 5 (.tmp 144) (.const (.int .u8 1)) 5)]∧RD zp5 9 [oo 146 (oF 34 5 0),oo 147 (oL 31 146),oo 148 (oM 14),oo 149 (.binOp .mul 3 (.const (.int .i64 2)) (.tmp 148) 3),oo 150 (oC .add 3 149 1),oo 151 (oI 31 147 150),oo 152 (oL 35 151),oo 153 (oF 34 5 0),oo 154 (oL 31 153),oo 155 (.indexAddr 31 (.tmp 154) (.const (.int .i64 0))),oo 156 (oL 35 155),oo 157 (oN 156 35),oo 158 (oC .sub 3 157 1),oo 159 (oM 15),oo 160 (oI 35 152 158),ow 3 160 159] [(0,2),(1,2),(0,3),(1,3),(0,4),(1,4),(0,7),(1,7),(2,7),(3,7),(4,7),(5,7),(6,7),(0,8),(1,8),(2,8),(3,8),(4,8),(5,8),(6,8),(0,9),(1,9),(2,9),(3,9),(4,9),(5,9),(6,9),(0,10),(1,10),(2,10),(3,10),(4,10),(5,10),(6,10),(0,11),(1,11),(2,11),(3,11),(4,11),(5,11),(6,11),(0,12),(1,12),(2,12),(3,12),(4,12),(5,12),(6,12),(0,13),(1,13),(2,13),(3,13),(4,13),(5,13),(6,13),(7,13),(8,13),(9,13),(10,13),(11,13),(12,13)]∧RR zp4 [oo 161 (oC .add 3 77 1),oo 77 (oM 161)]∧RI zcm (.seq (zqg) (.seq (.cond (.tmp 78) (.skip) (.exit 6)) (.seq (.block 7 (.seq (zqf) (.seq (zqe) (.seq (.seq (zqd) (.cond (.tmp 100) (.seq (zqc) (.ret)) (.skip))) (.seq (zqb) (.seq (zqa) (.seq (zp9) (.seq (zp7) (.seq (zp6) (.cond (.tmp 145) (zp5) (.skip))))))))))) (zp4))))∧ze T 9 zcm [1,2,3,5,6,10,11,37,38,39,77]∧RR zdd [oo 162 (oC .add 3 39 1),oo 39 (oM 162)]∧RI za2 (.seq (zqt) (.seq (.cond (.tmp 40) (.skip) (.exit 2)) (.seq (.block 3 (.seq (zqs) (.seq (zqr) (.seq (zqq) (.seq (.seq (zqp) (.cond (.tmp 55) (.seq (zqo) (.ret)) (.skip))) (.seq (.seq (zqn) (.block 4 (.loop zof))) (.seq (zqh) (.block 6 (.loop zcm))))))))) (zdd))))∧ze T 9 za2 [1,2,3,5,6,37,38,39]∧RD r9_35 9 [oo 163 (oL 34 5),oo 164 (oL 36 6),oo 165 (oL 34 5),oo 166 (o1 33 165 34),oo 167 (oC .eql 3 166 0),ow 34 2 163,ow 36 3 164,oo 4 (oG 167)] [(0,1),(0,2),(1,2),(0,3),(1,3),(0,4),(1,4),(1,5),(4,5),(4,6)]∧zw T 9 [.cell 2 34,.cell 3 36,.tmp 4] false:=by refine⟨zz T ?_,zz T ?_,zz T ?_,zz T ?_,zz T ?_,zz T ?_,zz T ?_,xv T (id:=7) ?_ ?_,zz T ?_,zr T ?_,zo T ?_,zz T ?_,zz T ?_,zz T ?_,zz T ?_,xv T (id:=13) ?_ ?_,zz T ?_,xv T (id:=15) ?_ ?_,zz T ?_,zz T ?_,zz T ?_,xv T (id:=19) ?_ ?_,zz T ?_,zr T ?_,zo T ?_,zz T ?_,zz T ?_,zz T ?_,xv T (id:=24) ?_ ?_,zz T ?_,xv T (id:=26) ?_ ?_,zz T ?_,zz T ?_,zz T ?_,xv T (id:=30) ?_ ?_,zz T ?_,xv T (id:=32) ?_ ?_,zz T ?_,zr T ?_,zo T ?_,zz T ?_,zr T ?_,zo T ?_,xv T (id:=35) ?_ ?_,zy T (F:=f9) ?_ ?_ ?_⟩<;>kernel_rfl
def yka:=nv 2 f11
def yj9:=nv 6 f11
def yj8:=nv 14 f11
def yj7:=nv 60 f11
def zop:=nv 244 f11
def yj6:=nv 488 f11
def yj5:=nv 7832 f11
def yj4:=nv 7833 f11
def yj3:=nv 1959 f11
def yj2:=nv 62 f11
theorem xej:xc T 11 28 (.seq (yka) (.seq (yj9) (.seq (yj8) (.seq (.seq (yj7) (.block 0 (.loop zop))) (.seq (yj2) (.ret)))))):=zk T (F:=f11) (by kernel_rfl) (by kernel_rfl) (by kernel_rfl)
@[go_sem↓]theorem run11:RR yka [oo 1 (.box 34 (.tmp 0)),oo 2 (.alloc 44)]∧RR yj9 [oo 6 (oL 34 1),oo 7 (o1 36 6 34),ow 34 1 7]∧RR yj8 [oo 8 (oF 34 1 0),oo 9 (oL 31 8),oo 10 (oF 34 1 1),oo 11 (oL 3 10),oo 12 (.build 44 #[(0,.tmp 9),(1,.tmp 11)]),oo 3 (.alloc 44),ow 44 3 12]∧RR yj7 [oo 13 (oF 34 1 2),oo 14 (oL 32 13),oo 15 (oN 14 32),oo 16 (.move (.const (.int .i64 0)))]∧RR yj6 [oo 17 (oB .lss 3 16 15)]∧RR yj5 [oo 18 (oI 32 14 16),oo 19 (oL 54 18),oo 5 (.alloc 54),ow 54 5 19]∧RR yj4 [oo 20 (oF 44 3 2),oo 21 (oL 42 20),oo 22 (oL 54 5),oo 23 (oS 42 22),oo 24 (oA 21 23 42),oo 25 (oF 44 3 2),ow 42 25 24]∧RR yj3 [oo 26 (oC .add 3 16 1),oo 16 (oM 26)]∧RI zop (.seq (yj6) (.seq (.cond (.tmp 17) (.skip) (.exit 0)) (.seq (.block 1 (.seq (yj5) (yj4))) (yj3))))∧ze T 11 zop [2,3,14,15,16]∧RR yj2 [oo 27 (oL 44 3),ow 44 2 27]∧zw T 11 [.cell 2 44] false:=by refine⟨zz T ?_,zz T ?_,zz T ?_,zz T ?_,zz T ?_,zz T ?_,zz T ?_,zz T ?_,zr T ?_,zo T ?_,zz T ?_,zy T (F:=f11) ?_ ?_ ?_⟩<;>kernel_rfl
@[go_sem]theorem fr18:xd T 18 false none false∧zak T 18 35 39 []:=by refine⟨⟨?_,?_,?_⟩,zab T (F:=f18) ?_ ?_⟩<;>kernel_rfl
@[go_sem]theorem fr68:xd T 68 false none false∧zf T 68 39:=by refine⟨⟨?_,?_,?_⟩,zh T (F:=f68) ?_ ?_⟩<;>kernel_rfl
@[go_sem]theorem fr69:xd T 69 false none false∧zf T 69 35:=by refine⟨⟨?_,?_,?_⟩,zh T (F:=f69) ?_ ?_⟩<;>kernel_rfl
@[go_sem]theorem fr70:xd T 70 false none false∧zf T 70 3:=by refine⟨⟨?_,?_,?_⟩,zh T (F:=f70) ?_ ?_⟩<;>kernel_rfl
def ycf:=nv 2 f18
def yce:=nv 12 f18
def ycd:=nv 26 f18
def ycc:=nv 108 f18
def ycb:=nv 14 f18
theorem xdj:xc T 18 14 (.seq (ycf) (.seq (.seq (yce) (.seq (ycd) (.cond (.tmp 8) (.seq (ycc) (.ret)) (.skip)))) (.seq (ycb) (.ret)))):=zk T (F:=f18) (by kernel_rfl) (by kernel_rfl) (by kernel_rfl)
@[go_sem↓]theorem run18:RR ycf [oo 2 on,oo 3 (oi 0)]∧RR yce [oo 5 (oM 0),oo 6 (o1 68 5 65),oo 4 (oG 6)]∧RR ycd [oo 7 (oM 4),oo 8 (oC .neq 39 7 0)]∧RR ycc [oo 9 (oM 4),oo 2 on,oo 3 (oG 9)]∧RR ycb [oo 10 (oM 0),oo 11 (oM 0),oo 12 (o1 70 11 65),oo 13 (o2 69 10 12 65 3),oo 2 (oG 13),oo 3 (oi 0)]∧zw T 18 [.tmp 2,.tmp 3] false:=by refine⟨zz T ?_,zz T ?_,zz T ?_,zz T ?_,zz T ?_,zy T (F:=f18) ?_ ?_ ?_⟩<;>kernel_rfl
def yby:=nv 2 f19
def ybx:=nv 6 f19
def ybw:=nv 28 f19
def zjb:=nv 116 f19
def ybv:=nv 232 f19
def ybu:=nv 3736 f19
def ybt:=nv 3737 f19
def ybs:=nv 935 f19
def zlj:=nv 30 f19
theorem xdb:xc T 19 27 (.seq (yby) (.seq (ybx) (.seq (.seq (ybw) (.block 0 (.loop zjb))) (.seq (zlj) (.ret))))):=zk T (F:=f19) (by kernel_rfl) (by kernel_rfl) (by kernel_rfl)
@[go_sem↓]theorem run19:RR yby [oo 6 on]∧RR ybx [oo 7 on]∧RR ybw [oo 10 (oM 1),oo 11 (oN 10 35),oo 12 (.move (.const (.int .i64 0)))]∧RR ybv [oo 13 (oB .lss 3 12 11)]∧RR ybu [oo 14 (oI 35 10 12),oo 15 (oL 3 14),oo 9 (oG 15)]∧RR ybt [oo 16 (oM 7),oo 17 (.buildSlice 158 0 #[]),oo 18 (oM 0),oo 19 (.call ⟨.builtin .append,#[.tmp 17,.tmp 18],#[158,23]⟩),oo 20 (oM 9),oo 21 (oM 2),oo 22 (.build 160 #[(0,.tmp 19),(1,.tmp 20),(2,.tmp 21)]),oo 23 (oS 62 22),oo 24 (oA 16 23 62),oo 7 (oG 24)]∧RR ybs [oo 25 (oC .add 3 12 1),oo 12 (oM 25)]∧RI zjb (.seq (ybv) (.seq (.cond (.tmp 13) (.skip) (.exit 0)) (.seq (.block 1 (.seq (ybu) (ybt))) (ybs))))∧ze T 19 zjb [0,2,7,10,11,12]∧RR zlj [oo 26 (oM 7),oo 6 (oG 26)]∧zw T 19 [.tmp 6] false:=by refine⟨zz T ?_,zz T ?_,zz T ?_,zz T ?_,zz T ?_,zz T ?_,zz T ?_,zr T ?_,zo T ?_,zz T ?_,zy T (F:=f19) ?_ ?_ ?_⟩<;>kernel_rfl
def ya6:=nv 2 f20
def ya5:=nv 6 f20
def ya4:=nv 28 f20
def zoj:=nv 116 f20
def ya3:=nv 232 f20
def ya2:=nv 1868 f20
def ya1:=nv 935 f20
def ya0:=nv 30 f20
theorem xc8:xc T 20 19 (.seq (ya6) (.seq (ya5) (.seq (.seq (ya4) (.block 0 (.loop zoj))) (.seq (ya0) (.ret))))):=zk T (F:=f20) (by kernel_rfl) (by kernel_rfl) (by kernel_rfl)
@[go_sem↓]theorem run20:RR ya6 [oo 2 (.box 28 (.tmp 0)),oo 4 on]∧RR ya5 [oo 6 (oM 1),oo 7 (oS 35 6),oo 5 (oG 7)]∧RR ya4 [oo 8 (oF 28 2 2),oo 9 (oL 5 8),oo 10 (.convert 5 3 (.tmp 9)),oo 11 (oC .rem 3 10 3),oo 12 (.move (.const (.int .i64 0)))]∧RR ya3 [oo 13 (oB .lss 3 12 11)]∧RR ya2 [oo 14 (oM 5),oo 15 (.buildSlice 35 1 #[(0,.const (.int .i64 1000))]),oo 16 (oA 14 15 35),oo 5 (oG 16)]∧RR ya1 [oo 17 (oC .add 3 12 1),oo 12 (oM 17)]∧RI zoj (.seq (ya3) (.seq (.cond (.tmp 13) (.skip) (.exit 0)) (.seq (.block 1 (ya2)) (ya1))))∧ze T 20 zoj [5,11,12]∧RR ya0 [oo 18 (oM 5),oo 4 (oG 18)]∧zw T 20 [.tmp 4] false:=by refine⟨zz T ?_,zz T ?_,zz T ?_,zz T ?_,zz T ?_,zz T ?_,zr T ?_,zo T ?_,zz T ?_,zy T (F:=f20) ?_ ?_ ?_⟩<;>kernel_rfl
@[go_sem]theorem fr21:xd T 21 false none false∧zak T 21 3 39 []:=by refine⟨⟨?_,?_,?_⟩,zab T (F:=f21) ?_ ?_⟩<;>kernel_rfl
@[go_sem]theorem fr71:xd T 71 false none false∧zf T 71 39:=by refine⟨⟨?_,?_,?_⟩,zh T (F:=f71) ?_ ?_⟩<;>kernel_rfl
@[go_sem]theorem fr72:xd T 72 false none false∧zf T 72 39:=by refine⟨⟨?_,?_,?_⟩,zh T (F:=f72) ?_ ?_⟩<;>kernel_rfl
def yaq:=nv 2 f21
def yap:=nv 12 f21
def yao:=nv 26 f21
def yan:=nv 108 f21
def yam:=nv 14 f21
theorem xc2:xc T 21 22 (.seq (yaq) (.seq (.seq (yap) (.seq (yao) (.cond (.tmp 14) (.seq (yan) (.ret)) (.skip)))) (.seq (yam) (.ret)))):=zk T (F:=f21) (by kernel_rfl) (by kernel_rfl) (by kernel_rfl)
@[go_sem↓]theorem run21:RR yaq [oo 4 (oi 0),oo 5 (oi 0)]∧RR yap [oo 7 (oM 0),oo 8 (o1 68 7 65),oo 9 (oM 1),oo 10 (o1 72 9 3),oo 11 (.buildSlice 148 2 #[(0,.tmp 8),(1,.tmp 10)]),oo 12 (o1 71 11 148),oo 6 (oG 12)]∧RR yao [oo 13 (oM 6),oo 14 (oC .neq 39 13 0)]∧RR yan [oo 15 (oM 6),oo 4 (oi 0),oo 5 (oG 15)]∧RR yam [oo 16 (oM 0),oo 17 (oM 1),oo 18 (o2 69 16 17 65 3),oo 19 (oM 1),oo 20 (oI 35 18 19),oo 21 (oL 3 20),oo 4 (oG 21),oo 5 (oi 0)]∧zw T 21 [.tmp 4,.tmp 5] false:=by refine⟨zz T ?_,zz T ?_,zz T ?_,zz T ?_,zz T ?_,zy T (F:=f21) ?_ ?_ ?_⟩<;>kernel_rfl
def zzg:=nv 2 f22
def zzf:=nv 6 f22
def zze:=nv 14 f22
theorem xcz:xc T 22 33 (.seq (zzg) (.seq (zzf) (.seq (zze) (.ret)))):=zk T (F:=f22) (by kernel_rfl) (by kernel_rfl) (by kernel_rfl)
@[go_sem↓]theorem run22:RR zzg [oo 3 (.box 28 (.tmp 0)),oo 6 (oi 0),oo 7 (.assign (.const (.bool false)))]∧RR zzf [oo 11 (oF 28 3 0),oo 12 (oL 23 11),oo 13 (oM 1),oo 14 (oF 28 3 1),oo 15 (oL 3 14),oo 16 (.call ⟨.value (.func 19),#[.tmp 12,.tmp 13,.tmp 15],#[23,35,3]⟩),oo 17 (oS 65 16),oo 18 (oM 2),oo 19 (o2 50 17 18 65 3),oo 10 (oM 19),oo 20 (oX 10 0),oo 21 (oX 10 1),oo 8 (oG 20),oo 9 (oG 21)]∧RR zze [oo 22 (oM 8),oo 23 (oM 9),oo 24 (oC .eql 39 23 0),oo 25 (oM 24),ot 26 (oM 8) 25,ot 27 (oC .geq 3 26 0) 25,oo 28 (.pick (.tmp 25) (.tmp 27) (.const (.bool false))),oo 29 (oM 28),ot 30 (oM 8) 29,ot 31 (oC .leq 3 30 960000) 29,oo 32 (.pick (.tmp 29) (.tmp 31) (.const (.bool false))),oo 6 (oG 22),oo 7 (oG 32)]∧zw T 22 [.tmp 6,.tmp 7] false:=by refine⟨zz T ?_,zz T ?_,zz T ?_,zy T (F:=f22) ?_ ?_ ?_⟩<;>kernel_rfl
@[go_sem]theorem fr73:xd T 73 false none false∧zf T 73 39:=by refine⟨⟨?_,?_,?_⟩,zh T (F:=f73) ?_ ?_⟩<;>kernel_rfl
@[go_sem]theorem fr74:xd T 74 false none false∧zf T 74 39:=by refine⟨⟨?_,?_,?_⟩,zh T (F:=f74) ?_ ?_⟩<;>kernel_rfl
@[go_sem]theorem fr75:xd T 75 false none false∧zf T 75 39:=by refine⟨⟨?_,?_,?_⟩,zh T (F:=f75) ?_ ?_⟩<;>kernel_rfl
@[go_sem]theorem fr76:xd T 76 false none false∧zf T 76 3:=by refine⟨⟨?_,?_,?_⟩,zh T (F:=f76) ?_ ?_⟩<;>kernel_rfl
@[go_sem]theorem fr77:xd T 77 false none false∧zf T 77 4:=by refine⟨⟨?_,?_,?_⟩,zh T (F:=f77) ?_ ?_⟩<;>kernel_rfl
def zy7:=nv 2 f23
def zy6:=nv 12 f23
def zy5:=nv 26 f23
def zy4:=nv 108 f23
def zy3:=nv 14 f23
def zy2:=nv 30 f23
theorem zh9:xc T 23 33 (.seq (zy7) (.seq (.seq (zy6) (.seq (zy5) (.cond (.tmp 24) (.seq (zy4) (.ret)) (.skip)))) (.seq (zy3) (.seq (zy2) (.ret))))):=zk T (F:=f23) (by kernel_rfl) (by kernel_rfl) (by kernel_rfl)
@[go_sem↓]theorem run23:RR zy7 [oo 2 (.box 35 (.tmp 0)),oo 3 (.box 35 (.tmp 1)),oo 4 (.assign (.const (.string ⟨#[]⟩))),oo 5 (oi 0)]∧RD zy6 23 [oo 8 (oL 35 2),oo 9 (oN 8 35),oo 10 (.call ⟨.value (.func 73),#[.tmp 9,.const (.int .i64 801)],#[3,3]⟩),oo 11 (oL 35 2),oo 12 (o1 74 11 35),oo 13 (oL 35 3),oo 14 (oN 13 35),oo 15 (oL 35 2),oo 16 (oN 15 35),oo 17 (oB .neq 3 14 16),oo 18 (.call ⟨.value (.func 75),#[.tmp 17,.const (.int .i64 2)],#[4,39]⟩),oo 19 (oL 35 3),oo 20 (o1 74 19 35),oo 21 (.buildSlice 148 4 #[(0,.tmp 10),(1,.tmp 12),(2,.tmp 18),(3,.tmp 20)]),oo 22 (o1 71 21 148),oo 6 (oG 22)] [(0,3),(1,3),(2,3),(0,5),(1,5),(2,5),(3,5),(4,5),(0,6),(1,6),(2,6),(3,6),(4,6),(0,7),(1,7),(2,7),(3,7),(4,7),(5,7),(6,7),(0,8),(1,8),(2,8),(3,8),(4,8),(5,8),(6,8),(0,9),(1,9),(2,9),(3,9),(4,9),(0,11),(1,11),(2,11),(3,11),(4,11),(5,11),(6,11),(7,11),(8,11),(9,11),(10,11)]∧RR zy5 [oo 23 (oM 6),oo 24 (oC .neq 39 23 0)]∧RR zy4 [oo 25 (oM 6),oo 4 (.assign (.const (.string ⟨#[]⟩))),oo 5 (oG 25)]∧RR zy3 [oo 26 (.slice 167 (.global 0) none none none),oo 27 (.makeFunc (.func 77) #[] #[.tmp 2,.tmp 3]),oo 28 (o2 76 26 27 164 168),oo 7 (oG 28)]∧RR zy2 [oo 29 (oM 7),oo 30 (.indexAddr 167 (.global 0) (.tmp 29)),oo 31 (oF 166 30 0),oo 32 (oL 9 31),oo 4 (oG 32),oo 5 (oi 0)]∧zw T 23 [.tmp 4,.tmp 5] false:=by refine⟨zz T ?_,xv T (id:=1) ?_ ?_,zz T ?_,zz T ?_,zz T ?_,zz T ?_,zy T (F:=f23) ?_ ?_ ?_⟩<;>kernel_rfl
@[go_sem]theorem fr90:xd T 90 false none false∧zf T 90 9:=by refine⟨⟨?_,?_,?_⟩,zh T (F:=f90) ?_ ?_⟩<;>kernel_rfl
def zw4:=nv 2 f30
def zw3:=nv 6 f30
theorem znm:xc T 30 6 (.seq (zw4) (.seq (zw3) (.ret))):=zk T (F:=f30) (by kernel_rfl) (by kernel_rfl) (by kernel_rfl)
@[go_sem↓]theorem run30:RR zw4 [oo 2 (.assign (.const (.string ⟨#[]⟩)))]∧RR zw3 [oo 3 (oM 0),oo 4 (o1 90 3 3),oo 5 (.binOp .add 9 (.const (.string ⟨#[99]⟩)) (.tmp 4) 9),oo 2 (oG 5)]∧zw T 30 [.tmp 2] false:=by refine⟨zz T ?_,zz T ?_,zy T (F:=f30) ?_ ?_ ?_⟩<;>kernel_rfl
def zv8:=nv 2 f48
def zv7:=nv 6 f48
theorem ym0:xc T 48 6 (.seq (zv8) (.seq (zv7) (.ret))):=zk T (F:=f48) (by kernel_rfl) (by kernel_rfl) (by kernel_rfl)
@[go_sem↓]theorem run48:RR zv8 [oo 2 (.assign (.const (.bool false)))]∧RR zv7 [oo 3 (oM 0),oo 4 (oN 3 23),oo 5 (oC .leq 3 4 9),oo 2 (oG 5)]∧zw T 48 [.tmp 2] false:=by refine⟨zz T ?_,zz T ?_,zy T (F:=f48) ?_ ?_ ?_⟩<;>kernel_rfl
@[go_sem]theorem fr116:xd T 116 false none false∧zf T 116 3:=by refine⟨⟨?_,?_,?_⟩,zh T (F:=f116) ?_ ?_⟩<;>kernel_rfl
def zv6:=nv 2 f49
def zv5:=nv 6 f49
theorem xci:xc T 49 14 (.seq (zv6) (.seq (zv5) (.ret))):=zk T (F:=f49) (by kernel_rfl) (by kernel_rfl) (by kernel_rfl)
@[go_sem↓]theorem run49:RR zv6 [oo 1 (.box 138 (.tmp 0)),oo 2 (oi 0)]∧RD zv5 49 [oo 3 (oF 138 1 0),oo 4 (oL 23 3),oo 5 (o1 116 4 23),oo 6 (oF 138 1 1),oo 7 (oL 3 6),oo 8 (.call ⟨.value (.func 38),#[.tmp 7,.const (.int .i64 0),.const (.int .i64 1000)],#[3,3,3]⟩),oo 9 (oF 138 1 2),oo 10 (oL 3 9),oo 11 (.call ⟨.value (.func 38),#[.tmp 10,.const (.int .i64 0),.const (.int .i64 10)],#[3,3,3]⟩),oo 12 (.buildSlice 35 3 #[(0,.tmp 5),(1,.tmp 8),(2,.tmp 11)]),oo 13 (o1 89 12 35),oo 2 (oG 13)] [(0,3),(1,3),(2,3),(0,4),(1,4),(2,4),(0,6),(1,6),(2,6),(3,6),(4,6),(5,6),(0,7),(1,7),(2,7),(3,7),(4,7),(5,7)]∧zw T 49 [.tmp 2] false:=by refine⟨zz T ?_,xv T (id:=1) ?_ ?_,zy T (F:=f49) ?_ ?_ ?_⟩<;>kernel_rfl
def zvf:=nv 2 f50
def zve:=nv 6 f50
def zvd:=nv 28 f50
def zvc:=nv 116 f50
def zvb:=nv 30 f50
theorem xch:xc T 50 20 (.seq (zvf) (.seq (zve) (.seq (.seq (zvd) (.cond (.tmp 15) (.seq (zvc) (.ret)) (.skip))) (.seq (zvb) (.ret))))):=zk T (F:=f50) (by kernel_rfl) (by kernel_rfl) (by kernel_rfl)
@[go_sem↓]theorem run50:RR zvf [oo 4 (oi 0),oo 5 (oi 0)]∧RR zve [oo 9 (oM 0),oo 10 (oM 1),oo 11 (o2 21 9 10 65 3),oo 8 (oM 11),oo 12 (oX 8 0),oo 13 (oX 8 1),oo 6 (oG 12),oo 7 (oG 13)]∧RR zvd [oo 14 (oM 7),oo 15 (oC .neq 39 14 0)]∧RR zvc [oo 16 (oM 7),oo 4 (oi 0),oo 5 (oG 16)]∧RR zvb [oo 17 (oM 1),oo 18 (oM 6),oo 19 (oB .mul 3 17 18),oo 4 (oG 19),oo 5 (oi 0)]∧zw T 50 [.tmp 4,.tmp 5] false:=by refine⟨zz T ?_,zz T ?_,zz T ?_,zz T ?_,zz T ?_,zy T (F:=f50) ?_ ?_ ?_⟩<;>kernel_rfl
@[go_sem]theorem fr129:xd T 129 false none false∧zf T 129 148:=by refine⟨⟨?_,?_,?_⟩,zh T (F:=f129) ?_ ?_⟩<;>kernel_rfl
@[go_sem]theorem fr130:xd T 130 false none false∧zf T 130 39:=by refine⟨⟨?_,?_,?_⟩,zh T (F:=f130) ?_ ?_⟩<;>kernel_rfl
def ztn:=nv 2 f68
def ztm:=nv 12 f68
def ztl:=nv 26 f68
def ztk:=nv 108 f68
def ztj:=nv 14 f68
theorem xb6:xc T 68 13 (.seq (ztn) (.seq (.seq (ztm) (.seq (ztl) (.cond (.tmp 8) (.seq (ztk) (.ret)) (.skip)))) (.seq (ztj) (.ret)))):=zk T (F:=f68) (by kernel_rfl) (by kernel_rfl) (by kernel_rfl)
@[go_sem↓]theorem run68:RR ztn [oo 2 (oi 0)]∧RR ztm [oo 4 (oM 0),oo 5 (oN 4 65),oo 6 (.call ⟨.value (.func 73),#[.tmp 5,.const (.int .i64 6)],#[3,3]⟩),oo 3 (oG 6)]∧RR ztl [oo 7 (oM 3),oo 8 (oC .neq 39 7 0)]∧RR ztk [oo 9 (oM 3),oo 2 (oG 9)]∧RR ztj [oo 10 (oM 0),oo 11 (.call ⟨.value (.func 129),#[.tmp 10,.func 130],#[65,223]⟩),oo 12 (o1 71 11 148),oo 2 (oG 12)]∧zw T 68 [.tmp 2] false:=by refine⟨zz T ?_,zz T ?_,zz T ?_,zz T ?_,zz T ?_,zy T (F:=f68) ?_ ?_ ?_⟩<;>kernel_rfl
@[go_sem]theorem fr131:xd T 131 false none false∧zf T 131 35:=by refine⟨⟨?_,?_,?_⟩,zh T (F:=f131) ?_ ?_⟩<;>kernel_rfl
def zti:=nv 2 f69
def zth:=nv 6 f69
def ztg:=nv 28 f69
def zfu:=nv 116 f69
def ztf:=nv 232 f69
def zte:=nv 3736 f69
def ztd:=nv 7474 f69
def zix:=nv 29900 f69
def ztc:=nv 59800 f69
def ztb:=nv 956824 f69
def zta:=nv 956825 f69
def zs9:=nv 239207 f69
def zk5:=nv 935 f69
def r69_11:=nv 30 f69
theorem xb5:xc T 69 38 (.seq (zti) (.seq (zth) (.seq (.seq (ztg) (.block 0 (.loop zfu))) (.seq (r69_11) (.ret))))):=zk T (F:=f69) (by kernel_rfl) (by kernel_rfl) (by kernel_rfl)
@[go_sem↓]theorem run69:RR zti [oo 4 on]∧RR zth [oo 10 (oM 1),oo 11 (oC .add 3 10 1),oo 12 (.makeSlice 35 (.tmp 11) (.tmp 11)),oo 5 (oG 12)]∧RR ztg [oo 13 (oM 0),oo 14 (oN 13 65),oo 15 (.move (.const (.int .i64 0)))]∧RR ztf [oo 16 (oB .lss 3 15 14)]∧RR zte [oo 17 (oI 65 13 15),oo 18 (oL 62 17),oo 7 (oG 18)]∧RR ztd [oo 19 (oM 7),oo 20 (oM 1),oo 21 (o2 131 19 20 62 3),oo 22 (oN 21 35),oo 23 (.move (.const (.int .i64 0)))]∧RR ztc [oo 24 (oB .lss 3 23 22)]∧RR ztb [oo 25 (oM 23),oo 26 (oI 35 21 23),oo 27 (oL 3 26),oo 8 (oG 25),oo 9 (oG 27)]∧RR zta [oo 28 (oM 5),oo 29 (oM 8),oo 30 (oI 35 28 29),oo 31 (oL 3 30),oo 32 (oM 9),oo 33 (oB .add 3 31 32),oo 34 (oI 35 28 29),ow 3 34 33]∧RR zs9 [oo 35 (oC .add 3 23 1),oo 23 (oM 35)]∧RI zix (.seq (ztc) (.seq (.cond (.tmp 24) (.skip) (.exit 2)) (.seq (.block 3 (.seq (ztb) (zta))) (zs9))))∧ze T 69 zix [1,5,13,14,15,21,22,23]∧RR zk5 [oo 36 (oC .add 3 15 1),oo 15 (oM 36)]∧RI zfu (.seq (ztf) (.seq (.cond (.tmp 16) (.skip) (.exit 0)) (.seq (.block 1 (.seq (zte) (.seq (ztd) (.block 2 (.loop zix))))) (zk5))))∧ze T 69 zfu [1,5,13,14,15]∧RR r69_11 [oo 37 (oM 5),oo 4 (oG 37)]∧zw T 69 [.tmp 4] false:=by refine⟨zz T ?_,zz T ?_,zz T ?_,zz T ?_,zz T ?_,zz T ?_,zz T ?_,zz T ?_,zz T ?_,zz T ?_,zr T ?_,zo T ?_,zz T ?_,zr T ?_,zo T ?_,zz T ?_,zy T (F:=f69) ?_ ?_ ?_⟩<;>kernel_rfl
@[go_sem]theorem fr132:xd T 132 false none false∧zf T 132 3:=by refine⟨⟨?_,?_,?_⟩,zh T (F:=f132) ?_ ?_⟩<;>kernel_rfl
@[go_sem]theorem fr133:xd T 133 false none false∧zf T 133 35:=by refine⟨⟨?_,?_,?_⟩,zh T (F:=f133) ?_ ?_⟩<;>kernel_rfl
@[go_sem]theorem fr134:xd T 134 false none false∧zf T 134 3:=by refine⟨⟨?_,?_,?_⟩,zh T (F:=f134) ?_ ?_⟩<;>kernel_rfl
def zs8:=nv 2 f70
def zs7:=nv 6 f70
theorem xb4:xc T 70 6 (.seq (zs8) (.seq (zs7) (.ret))):=zk T (F:=f70) (by kernel_rfl) (by kernel_rfl) (by kernel_rfl)
@[go_sem↓]theorem run70:RR zs8 [oo 2 (oi 0)]∧RR zs7 [oo 3 (oM 0),oo 4 (.call ⟨.value (.func 133),#[.tmp 3,.func 134],#[65,227]⟩),oo 5 (o1 132 4 35),oo 2 (oG 5)]∧zw T 70 [.tmp 2] false:=by refine⟨zz T ?_,zz T ?_,zy T (F:=f70) ?_ ?_ ?_⟩<;>kernel_rfl
def zs6:=nv 2 f71
def zs5:=nv 12 f71
def ziw:=nv 52 f71
def zs4:=nv 104 f71
def zs3:=nv 1688 f71
def zs2:=nv 3378 f71
def zs1:=nv 13516 f71
def zs0:=nv 423 f71
def zk4:=nv 14 f71
theorem xb3:xc T 71 15 (.seq (zs6) (.seq (.seq (zs5) (.block 0 (.loop ziw))) (.seq (zk4) (.ret)))):=zk T (F:=f71) (by kernel_rfl) (by kernel_rfl) (by kernel_rfl)
@[go_sem↓]theorem run71:RR zs6 [oo 2 (oi 0)]∧RR zs5 [oo 5 (oM 0),oo 6 (oN 5 148),oo 7 (.move (.const (.int .i64 0)))]∧RR zs4 [oo 8 (oB .lss 3 7 6)]∧RR zs3 [oo 9 (oI 148 5 7),oo 10 (oL 39 9),oo 4 (oG 10)]∧RR zs2 [oo 11 (oM 4),oo 12 (oC .neq 39 11 0)]∧RR zs1 [oo 13 (oM 4),oo 2 (oG 13)]∧RR zs0 [oo 14 (oC .add 3 7 1),oo 7 (oM 14)]∧RI ziw (.seq (zs4) (.seq (.cond (.tmp 8) (.skip) (.exit 0)) (.seq (.block 1 (.seq (zs3) (.seq (zs2) (.cond (.tmp 12) (.seq (zs1) (.ret)) (.skip))))) (zs0))))∧ze T 71 ziw [5,6,7]∧RR zk4 [oo 2 (oi 0)]∧zw T 71 [.tmp 2] false:=by refine⟨zz T ?_,zz T ?_,zz T ?_,zz T ?_,zz T ?_,zz T ?_,zz T ?_,zr T ?_,zo T ?_,zz T ?_,zy T (F:=f71) ?_ ?_ ?_⟩<;>kernel_rfl
@[go_sem]theorem fr136:xd T 136 false none false∧zf T 136 39:=by refine⟨⟨?_,?_,?_⟩,zh T (F:=f136) ?_ ?_⟩<;>kernel_rfl
def zsz:=nv 2 f72
def zsy:=nv 6 f72
theorem xb2:xc T 72 5 (.seq (zsz) (.seq (zsy) (.ret))):=zk T (F:=f72) (by kernel_rfl) (by kernel_rfl) (by kernel_rfl)
@[go_sem↓]theorem run72:RR zsz [oo 2 (oi 0)]∧RR zsy [oo 3 (oM 0),oo 4 (.call ⟨.value (.func 136),#[.tmp 3,.const (.int .i64 0),.const (.int .i64 800)],#[3,3,3]⟩),oo 2 (oG 4)]∧zw T 72 [.tmp 2] false:=by refine⟨zz T ?_,zz T ?_,zy T (F:=f72) ?_ ?_ ?_⟩<;>kernel_rfl
def zsx:=nv 2 f73
def zsw:=nv 6 f73
theorem xb1:xc T 73 14 (.seq (zsx) (.seq (zsw) (.ret))):=zk T (F:=f73) (by kernel_rfl) (by kernel_rfl) (by kernel_rfl)
@[go_sem↓]theorem run73:RR zsx [oo 4 (oi 0)]∧RR zsw [oo 5 (oM 0),oo 6 (oC .eql 3 5 0),oo 7 (.call ⟨.value (.func 75),#[.tmp 6,.const (.int .i64 12)],#[4,39]⟩),oo 8 (oM 0),oo 9 (oM 1),oo 10 (oB .gtr 3 8 9),oo 11 (.call ⟨.value (.func 75),#[.tmp 10,.const (.int .i64 5)],#[4,39]⟩),oo 12 (.buildSlice 148 2 #[(0,.tmp 7),(1,.tmp 11)]),oo 13 (o1 71 12 148),oo 4 (oG 13)]∧zw T 73 [.tmp 4] false:=by refine⟨zz T ?_,zz T ?_,zy T (F:=f73) ?_ ?_ ?_⟩<;>kernel_rfl
@[go_sem]theorem fr137:xd T 137 false none false∧zf T 137 148:=by refine⟨⟨?_,?_,?_⟩,zh T (F:=f137) ?_ ?_⟩<;>kernel_rfl
@[go_sem]theorem fr138:xd T 138 false none false∧zf T 138 39:=by refine⟨⟨?_,?_,?_⟩,zh T (F:=f138) ?_ ?_⟩<;>kernel_rfl
def zsv:=nv 2 f74
def zsu:=nv 6 f74
theorem xb0:xc T 74 6 (.seq (zsv) (.seq (zsu) (.ret))):=zk T (F:=f74) (by kernel_rfl) (by kernel_rfl) (by kernel_rfl)
@[go_sem↓]theorem run74:RR zsv [oo 2 (oi 0)]∧RR zsu [oo 3 (oM 0),oo 4 (.call ⟨.value (.func 137),#[.tmp 3,.func 138],#[35,150]⟩),oo 5 (o1 71 4 148),oo 2 (oG 5)]∧zw T 74 [.tmp 2] false:=by refine⟨zz T ?_,zz T ?_,zy T (F:=f74) ?_ ?_ ?_⟩<;>kernel_rfl
def zst:=nv 2 f75
def zss:=nv 12 f75
def zsr:=nv 52 f75
def zsq:=nv 14 f75
theorem xbz:xc T 75 7 (.seq (zst) (.seq (.seq (zss) (.cond (.tmp 5) (.seq (zsr) (.ret)) (.skip))) (.seq (zsq) (.ret)))):=zk T (F:=f75) (by kernel_rfl) (by kernel_rfl) (by kernel_rfl)
@[go_sem↓]theorem run75:RR zst [oo 4 (oi 0)]∧RR zss [oo 5 (oM 0)]∧RR zsr [oo 6 (oM 1),oo 4 (oG 6)]∧RR zsq [oo 4 (oi 0)]∧zw T 75 [.tmp 4] false:=by refine⟨zz T ?_,zz T ?_,zz T ?_,zz T ?_,zy T (F:=f75) ?_ ?_ ?_⟩<;>kernel_rfl
def zsp:=nv 2 f76
def zso:=nv 12 f76
def zoh:=nv 52 f76
def zsn:=nv 104 f76
def zsm:=nv 1688 f76
def zsl:=nv 3378 f76
def zsk:=nv 13516 f76
def zsj:=nv 423 f76
def zsi:=nv 14 f76
theorem zh7:xc T 76 19 (.seq (zsp) (.seq (.seq (zso) (.block 0 (.loop zoh))) (.seq (zsi) (.ret)))):=zk T (F:=f76) (by kernel_rfl) (by kernel_rfl) (by kernel_rfl)
@[go_sem↓]theorem run76:RR zsp [oo 4 (oi 0)]∧RR zso [oo 6 (oM 0),oo 7 (oN 6 164),oo 8 (.move (.const (.int .i64 0)))]∧RR zsn [oo 9 (oB .lss 3 8 7)]∧RR zsm [oo 10 (oM 8),oo 5 (oG 10)]∧RR zsl [oo 11 (oM 1),oo 12 (oM 0),oo 13 (oM 5),oo 14 (oI 164 12 13),oo 15 (oL 166 14),oo 16 (.call ⟨.value (.tmp 11),#[.tmp 15],#[166]⟩)]∧RR zsk [oo 17 (oM 5),oo 4 (oG 17)]∧RR zsj [oo 18 (oC .add 3 8 1),oo 8 (oM 18)]∧RI zoh (.seq (zsn) (.seq (.cond (.tmp 9) (.skip) (.exit 0)) (.seq (.block 1 (.seq (zsm) (.seq (zsl) (.cond (.tmp 16) (.seq (zsk) (.ret)) (.skip))))) (zsj))))∧ze T 76 zoh [0,1,7,8]∧RR zsi [oo 4 (oi (-1))]∧zw T 76 [.tmp 4] false:=by refine⟨zz T ?_,zz T ?_,zz T ?_,zz T ?_,zz T ?_,zz T ?_,zz T ?_,zr T ?_,zo T ?_,zz T ?_,zy T (F:=f76) ?_ ?_ ?_⟩<;>kernel_rfl
def zsh:=nv 2 f77
def zsg:=nv 6 f77
theorem xby:xc T 77 10 (.seq (zsh) (.seq (zsg) (.ret))):=zk T (F:=f77) (by kernel_rfl) (by kernel_rfl) (by kernel_rfl)
@[go_sem↓]theorem run77:RR zsh [oo 3 (.box 166 (.tmp 0)),oo 4 (.assign (.const (.bool false)))]∧RR zsg [oo 5 (oF 166 3 1),oo 6 (oL 74 5),oo 7 (oL 35 1),oo 8 (oL 35 2),oo 9 (.call ⟨.value (.tmp 6),#[.tmp 7,.tmp 8],#[35,35]⟩),oo 4 (oG 9)]∧zw T 77 [.tmp 4] false:=by refine⟨zz T ?_,zz T ?_,zy T (F:=f77) ?_ ?_ ?_⟩<;>kernel_rfl
def yks:=nv 2 f116
def ykr:=nv 12 f116
def yko:=nv 26 f116
def ykn:=nv 108 f116
def ykm:=nv 28 f116
def zjy:=nv 116 f116
def ykl:=nv 464 f116
def ykj:=nv 3728 f116
def yki:=nv 7458 f116
def ykh:=nv 29836 f116
def ykq:=nv 3730 f116
def ykp:=nv 14924 f116
def ykk:=nv 467 f116
def zl8:=nv 30 f116
theorem znn:xc T 116 93 (.seq (yks) (.seq (.seq (ykr) (.seq (yko) (.cond (.tmp 17) (.seq (ykn) (.ret)) (.skip)))) (.seq (.seq (ykm) (.block 0 (.loop zjy))) (.seq (zl8) (.ret))))):=zk T (F:=f116) (by kernel_rfl) (by kernel_rfl) (by kernel_rfl)
@[go_sem↓]theorem run116:RR yks [oo 2 (oi 0)]∧RR ykr [oo 6 (oM 0),oo 7 (oN 6 23),oo 8 (oC .lss 3 7 2),oo 9 (.call ⟨.value (.func 96),#[.tmp 8,.const (.int .i64 16)],#[4,3]⟩),oo 10 (oM 0),oo 11 (oN 10 23),oo 12 (oC .gtr 3 11 8),oo 13 (.call ⟨.value (.func 96),#[.tmp 12,.const (.int .i64 5)],#[4,3]⟩),oo 14 (.buildSlice 35 2 #[(0,.tmp 9),(1,.tmp 13)]),oo 15 (o1 89 14 35),oo 3 (oG 15)]∧RR yko [oo 16 (oM 3),oo 17 (oC .neq 3 16 0)]∧RR ykn [oo 18 (oM 3),oo 2 (oG 18)]∧RR ykm [oo 4 (oi 0)]∧RR ykl [oo 19 (oM 4),oo 20 (oM 0),oo 21 (oN 20 23),oo 22 (oB .lss 3 19 21)]∧RD ykj 116 [oo 25 (oM 0),oo 26 (oM 4),oo 27 (oI 23 25 26),oo 28 (oF 76 27 0),oo 29 (oL 3 28),oo 30 (.call ⟨.value (.func 38),#[.tmp 29,.const (.int .i64 0),.const (.int .i64 100)],#[3,3,3]⟩),oo 31 (oM 0),oo 32 (oM 4),oo 33 (oI 23 31 32),oo 34 (oF 76 33 1),oo 35 (oL 3 34),oo 36 (.call ⟨.value (.func 38),#[.tmp 35,.const (.int .i64 0),.const (.int .i64 200)],#[3,3,3]⟩),oo 37 (.buildSlice 35 2 #[(0,.tmp 30),(1,.tmp 36)]),oo 38 (o1 89 37 35),oo 5 (oG 38)] [(0,1),(0,6),(1,6),(2,6),(3,6),(4,6),(5,6),(0,7),(1,7),(2,7),(3,7),(4,7),(5,7),(6,7),(0,8),(1,8),(2,8),(3,8),(4,8),(5,8),(0,9),(1,9),(2,9),(3,9),(4,9),(5,9),(0,10),(1,10),(2,10),(3,10),(4,10),(5,10)]∧RR yki [oo 39 (oM 5),oo 40 (oC .neq 3 39 0)]∧RR ykh [oo 41 (oM 5),oo 2 (oG 41)]∧RD ykq 116 [oo 42 (oM 4),oo 43 (oC .eql 3 42 0),oo 44 (oM 43),ot 45 (oM 0) 44,ot 46 (oM 4) 44,ot 47 (oI 23 45 46) 44,ot 48 (oF 76 47 0) 44,ot 49 (oL 3 48) 44,ot 50 (oC .neq 3 49 0) 44,oo 51 (.pick (.tmp 44) (.tmp 50) (.const (.bool false))),oo 52 (oM 51),of 53 (oM 4) 52,of 54 (oC .gtr 3 53 0) 52,of 55 (oM 54) 52,ot 56 (oM 0) 55,ot 57 (oM 4) 55,ot 58 (oI 23 56 57) 55,ot 59 (oF 76 58 0) 55,ot 60 (oL 3 59) 55,ot 61 (oM 0) 55,ot 62 (oM 4) 55,ot 63 (oC .sub 3 62 1) 55,ot 64 (oI 23 61 63) 55,ot 65 (oF 76 64 0) 55,ot 66 (oL 3 65) 55,ot 67 (oB .leq 3 60 66) 55,ot 68 (oM 67) 55,of 69 (oM 0) 68,of 70 (oM 4) 68,of 71 (oI 23 69 70) 68,of 72 (oF 76 71 1) 68,of 73 (oL 3 72) 68,of 74 (oM 0) 68,of 75 (oM 4) 68,of 76 (oC .sub 3 75 1) 68,of 77 (oI 23 74 76) 68,of 78 (oF 76 77 1) 68,of 79 (oL 3 78) 68,of 80 (oB .gtr 3 73 79) 68,ot 81 (.pick (.tmp 68) (.const (.bool true)) (.tmp 80)) 55,of 82 (.pick (.tmp 55) (.tmp 81) (.const (.bool false))) 52,oo 83 (.pick (.tmp 52) (.const (.bool true)) (.tmp 82))] [(3,4),(14,15),(14,19),(15,19),(16,19),(17,19),(18,19),(14,20),(15,20),(16,20),(17,20),(18,20),(19,20),(14,21),(15,21),(16,21),(17,21),(18,21),(19,21),(14,22),(15,22),(16,22),(17,22),(18,22),(14,23),(15,23),(16,23),(17,23),(18,23),(14,24),(15,24),(16,24),(17,24),(18,24),(27,28),(27,32),(28,32),(29,32),(30,32),(31,32),(27,33),(28,33),(29,33),(30,33),(31,33),(32,33),(27,34),(28,34),(29,34),(30,34),(31,34),(32,34),(27,35),(28,35),(29,35),(30,35),(31,35),(27,36),(28,36),(29,36),(30,36),(31,36),(27,37),(28,37),(29,37),(30,37),(31,37)]∧RR ykp [oo 2 (oi 11)]∧RR ykk [oo 23 (oM 4),oo 24 (oC .add 3 23 1),oo 4 (oG 24)]∧RI zjy (.seq (.seq (ykl) (.cond (.tmp 22) (.skip) (.exit 0))) (.seq (.block 1 (.seq (.seq (ykj) (.seq (yki) (.cond (.tmp 40) (.seq (ykh) (.ret)) (.skip)))) (.seq (ykq) (.cond (.tmp 83) (.seq (ykp) (.ret)) (.skip))))) (ykk)))∧ze T 116 zjy [0,4]∧RR zl8 [oo 84 (oM 0),oo 85 (oM 0),oo 86 (oN 85 23),oo 87 (oC .sub 3 86 1),oo 88 (oI 23 84 87),oo 89 (oF 76 88 1),oo 90 (oL 3 89),oo 91 (oC .neq 3 90 0),oo 92 (.call ⟨.value (.func 96),#[.tmp 91,.const (.int .i64 32)],#[4,3]⟩),oo 2 (oG 92)]∧zw T 116 [.tmp 2] false:=by refine⟨zz T ?_,zz T ?_,zz T ?_,zz T ?_,zz T ?_,zz T ?_,xv T (id:=7) ?_ ?_,zz T ?_,zz T ?_,xv T (id:=10) ?_ ?_,zz T ?_,zz T ?_,zr T ?_,zo T ?_,zz T ?_,zy T (F:=f116) ?_ ?_ ?_⟩<;>kernel_rfl
def yi0:=nv 2 f129
def yiz:=nv 6 f129
def yiy:=nv 28 f129
def zoo:=nv 116 f129
def yix:=nv 232 f129
def yiw:=nv 3736 f129
def yiv:=nv 3737 f129
def yiu:=nv 935 f129
def yit:=nv 30 f129
theorem xea:xc T 129 22 (.seq (yi0) (.seq (yiz) (.seq (.seq (yiy) (.block 0 (.loop zoo))) (.seq (yit) (.ret))))):=zk T (F:=f129) (by kernel_rfl) (by kernel_rfl) (by kernel_rfl)
@[go_sem↓]theorem run129:RR yi0 [oo 4 on]∧RR yiz [oo 5 on]∧RR yiy [oo 8 (oM 0),oo 9 (oN 8 65),oo 10 (.move (.const (.int .i64 0)))]∧RR yix [oo 11 (oB .lss 3 10 9)]∧RR yiw [oo 12 (oI 65 8 10),oo 13 (oL 62 12),oo 7 (oG 13)]∧RR yiv [oo 14 (oM 5),oo 15 (oM 1),oo 16 (oM 7),oo 17 (.call ⟨.value (.tmp 15),#[.tmp 16],#[62]⟩),oo 18 (oS 148 17),oo 19 (oA 14 18 148),oo 5 (oG 19)]∧RR yiu [oo 20 (oC .add 3 10 1),oo 10 (oM 20)]∧RI zoo (.seq (yix) (.seq (.cond (.tmp 11) (.skip) (.exit 0)) (.seq (.block 1 (.seq (yiw) (yiv))) (yiu))))∧ze T 129 zoo [1,5,8,9,10]∧RR yit [oo 21 (oM 5),oo 4 (oG 21)]∧zw T 129 [.tmp 4] false:=by refine⟨zz T ?_,zz T ?_,zz T ?_,zz T ?_,zz T ?_,zz T ?_,zz T ?_,zr T ?_,zo T ?_,zz T ?_,zy T (F:=f129) ?_ ?_ ?_⟩<;>kernel_rfl
@[go_sem]theorem fr178:xd T 178 false none false∧zf T 178 148:=by refine⟨⟨?_,?_,?_⟩,zh T (F:=f178) ?_ ?_⟩<;>kernel_rfl
@[go_sem]theorem fr179:xd T 179 false none false∧zf T 179 39:=by refine⟨⟨?_,?_,?_⟩,zh T (F:=f179) ?_ ?_⟩<;>kernel_rfl
def yin:=nv 2 f130
def yim:=nv 12 f130
def yil:=nv 26 f130
def yik:=nv 108 f130
def yij:=nv 14 f130
theorem xd9:xc T 130 13 (.seq (yin) (.seq (.seq (yim) (.seq (yil) (.cond (.tmp 8) (.seq (yik) (.ret)) (.skip)))) (.seq (yij) (.ret)))):=zk T (F:=f130) (by kernel_rfl) (by kernel_rfl) (by kernel_rfl)
@[go_sem↓]theorem run130:RR yin [oo 2 (oi 0)]∧RR yim [oo 4 (oM 0),oo 5 (oN 4 62),oo 6 (.call ⟨.value (.func 73),#[.tmp 5,.const (.int .i64 8)],#[3,3]⟩),oo 3 (oG 6)]∧RR yil [oo 7 (oM 3),oo 8 (oC .neq 39 7 0)]∧RR yik [oo 9 (oM 3),oo 2 (oG 9)]∧RR yij [oo 10 (oM 0),oo 11 (.call ⟨.value (.func 178),#[.tmp 10,.func 179],#[62,260]⟩),oo 12 (o1 71 11 148),oo 2 (oG 12)]∧zw T 130 [.tmp 2] false:=by refine⟨zz T ?_,zz T ?_,zz T ?_,zz T ?_,zz T ?_,zy T (F:=f130) ?_ ?_ ?_⟩<;>kernel_rfl
@[go_sem]theorem fr180:xd T 180 true none false∧zf T 180 261:=by refine⟨⟨?_,?_,?_⟩,zh T (F:=f180) ?_ ?_⟩<;>kernel_rfl
def yii:=nv 2 f131
def yih:=nv 6 f131
def yig:=nv 14 f131
def yif:=nv 30 f131
def yie:=nv 124 f131
def zf1:=nv 500 f131
def yid:=nv 1000 f131
def yic:=nv 16024 f131
def zju:=nv 128200 f131
def yib:=nv 512800 f131
def yia:=nv 512802 f131
def zl3:=nv 32051 f131
def zl4:=nv 4007 f131
def r131_11:=nv 126 f131
theorem xd8:xc T 131 37 (.seq (yii) (.seq (yih) (.seq (yig) (.seq (yif) (.seq (.seq (yie) (.block 0 (.loop zf1))) (.seq (r131_11) (.ret))))))):=zk T (F:=f131) (by kernel_rfl) (by kernel_rfl) (by kernel_rfl)
@[go_sem↓]theorem run131:RR yii [oo 4 on]∧RR yih [oo 9 (oM 0),oo 10 (o1 180 9 62),oo 5 (oG 10)]∧RR yig [oo 11 (oM 1),oo 12 (oC .add 3 11 1),oo 13 (.makeSlice 35 (.tmp 12) (.tmp 12)),oo 6 (oG 13)]∧RR yif [oo 7 (oi 200)]∧RR yie [oo 14 (oM 6),oo 15 (oN 14 35),oo 16 (.move (.const (.int .i64 0)))]∧RR yid [oo 17 (oB .lss 3 16 15)]∧RR yic [oo 18 (oM 16),oo 8 (oG 18)]∧RR yib [oo 19 (oM 7),oo 20 (oC .geq 3 19 0),oo 21 (oM 20),ot 22 (oM 5) 21,ot 23 (oM 7) 21,ot 24 (.lookup 261 (.tmp 22) (.tmp 23) false) 21,ot 25 (oM 8) 21,ot 26 (oB .lss 3 24 25) 21,oo 27 (.pick (.tmp 21) (.tmp 26) (.const (.bool false)))]∧RR yia [oo 28 (oM 7),oo 29 (oC .sub 3 28 1),oo 7 (oG 29)]∧RI zju (.seq (.seq (yib) (.cond (.tmp 27) (.skip) (.exit 2))) (.block 3 (yia)))∧ze T 131 zju [5,6,7,8,15,16]∧RR zl3 [oo 30 (oM 6),oo 31 (oM 8),oo 32 (oM 7),oo 33 (.call ⟨.builtin .max,#[.const (.int .i64 0),.tmp 32],#[3,3]⟩),oo 34 (oI 35 30 31),ow 3 34 33]∧RR zl4 [oo 35 (oC .add 3 16 1),oo 16 (oM 35)]∧RI zf1 (.seq (yid) (.seq (.cond (.tmp 17) (.skip) (.exit 0)) (.seq (.block 1 (.seq (yic) (.seq (.block 2 (.loop zju)) (zl3)))) (zl4))))∧ze T 131 zf1 [5,6,7,15,16]∧RR r131_11 [oo 36 (oM 6),oo 4 (oG 36)]∧zw T 131 [.tmp 4] false:=by refine⟨zz T ?_,zz T ?_,zz T ?_,zz T ?_,zz T ?_,zz T ?_,zz T ?_,zz T ?_,zz T ?_,zr T ?_,zo T ?_,zz T ?_,zz T ?_,zr T ?_,zo T ?_,zz T ?_,zy T (F:=f131) ?_ ?_ ?_⟩<;>kernel_rfl
def yh9:=nv 2 f132
def yh8:=nv 12 f132
def ys1:=nv 26 f132
def yh7:=nv 14 f132
def yh6:=nv 60 f132
def zjt:=nv 244 f132
def yh5:=nv 976 f132
def yh3:=nv 1956 f132
def yh4:=nv 979 f132
def zl2:=nv 62 f132
theorem ym3:xc T 132 25 (.seq (yh9) (.seq (.seq (yh8) (.cond (.tmp 7) (ys1) (.skip))) (.seq (yh7) (.seq (.seq (yh6) (.block 0 (.loop zjt))) (.seq (zl2) (.ret)))))):=zk T (F:=f132) (by kernel_rfl) (by kernel_rfl) (by kernel_rfl)
@[go_sem↓]theorem run132:RR yh9 [oo 2 (oi 0)]∧RR yh8 [oo 5 (oM 0),oo 6 (oN 5 35),oo 7 (oC .lss 3 6 1)]∧RR yh7 [oo 9 (oM 0),oo 10 (.indexAddr 35 (.tmp 9) (.const (.int .i64 0))),oo 11 (oL 3 10),oo 3 (oG 11)]∧RR yh6 [oo 4 (oi 1)]∧RR yh5 [oo 12 (oM 4),oo 13 (oM 0),oo 14 (oN 13 35),oo 15 (oB .lss 3 12 14)]∧RR yh3 [oo 18 (oM 3),oo 19 (oM 0),oo 20 (oM 4),oo 21 (oI 35 19 20),oo 22 (oL 3 21),oo 23 (.call ⟨.builtin .max,#[.tmp 18,.tmp 22],#[3,3]⟩),oo 3 (oG 23)]∧RR yh4 [oo 16 (oM 4),oo 17 (oC .add 3 16 1),oo 4 (oG 17)]∧RI zjt (.seq (.seq (yh5) (.cond (.tmp 15) (.skip) (.exit 0))) (.seq (.block 1 (yh3)) (yh4)))∧ze T 132 zjt [0,3,4]∧RR zl2 [oo 24 (oM 3),oo 2 (oG 24)]∧zw T 132 [.tmp 2] false:=by refine⟨zz T ?_,zz T ?_,zz T ?_,zz T ?_,zz T ?_,zz T ?_,zz T ?_,zr T ?_,zo T ?_,zz T ?_,zy T (F:=f132) ?_ ?_ ?_⟩<;>kernel_rfl
def yh2:=nv 2 f133
def yh1:=nv 6 f133
def yh0:=nv 28 f133
def zon:=nv 116 f133
def yhz:=nv 232 f133
def yhy:=nv 3736 f133
def yhx:=nv 3737 f133
def yhw:=nv 935 f133
def yhv:=nv 30 f133
theorem xd7:xc T 133 22 (.seq (yh2) (.seq (yh1) (.seq (.seq (yh0) (.block 0 (.loop zon))) (.seq (yhv) (.ret))))):=zk T (F:=f133) (by kernel_rfl) (by kernel_rfl) (by kernel_rfl)
@[go_sem↓]theorem run133:RR yh2 [oo 4 on]∧RR yh1 [oo 5 on]∧RR yh0 [oo 8 (oM 0),oo 9 (oN 8 65),oo 10 (.move (.const (.int .i64 0)))]∧RR yhz [oo 11 (oB .lss 3 10 9)]∧RR yhy [oo 12 (oI 65 8 10),oo 13 (oL 62 12),oo 7 (oG 13)]∧RR yhx [oo 14 (oM 5),oo 15 (oM 1),oo 16 (oM 7),oo 17 (.call ⟨.value (.tmp 15),#[.tmp 16],#[62]⟩),oo 18 (oS 35 17),oo 19 (oA 14 18 35),oo 5 (oG 19)]∧RR yhw [oo 20 (oC .add 3 10 1),oo 10 (oM 20)]∧RI zon (.seq (yhz) (.seq (.cond (.tmp 11) (.skip) (.exit 0)) (.seq (.block 1 (.seq (yhy) (yhx))) (yhw))))∧ze T 133 zon [1,5,8,9,10]∧RR yhv [oo 21 (oM 5),oo 4 (oG 21)]∧zw T 133 [.tmp 4] false:=by refine⟨zz T ?_,zz T ?_,zz T ?_,zz T ?_,zz T ?_,zz T ?_,zz T ?_,zr T ?_,zo T ?_,zz T ?_,zy T (F:=f133) ?_ ?_ ?_⟩<;>kernel_rfl
@[go_sem]theorem fr135:xd T 135 false none false∧zf T 135 3:=by refine⟨⟨?_,?_,?_⟩,zh T (F:=f135) ?_ ?_⟩<;>kernel_rfl
def yhu:=nv 2 f134
def yht:=nv 6 f134
theorem xd6:xc T 134 5 (.seq (yhu) (.seq (yht) (.ret))):=zk T (F:=f134) (by kernel_rfl) (by kernel_rfl) (by kernel_rfl)
@[go_sem↓]theorem run134:RR yhu [oo 2 (oi 0)]∧RR yht [oo 3 (oM 0),oo 4 (.call ⟨.value (.func 135),#[.tmp 3,.const (.int .i64 0)],#[62,3]⟩),oo 2 (oG 4)]∧zw T 134 [.tmp 2] false:=by refine⟨zz T ?_,zz T ?_,zy T (F:=f134) ?_ ?_ ?_⟩<;>kernel_rfl
@[go_sem]theorem fr181:xd T 181 false none false∧zak T 181 3 4 []:=by refine⟨⟨?_,?_,?_⟩,zab T (F:=f181) ?_ ?_⟩<;>kernel_rfl
def yhs:=nv 2 f135
def yhr:=nv 6 f135
def yhq:=nv 28 f135
def zjs:=nv 116 f135
def yhp:=nv 232 f135
def yho:=nv 3736 f135
def yhn:=nv 7474 f135
def yhm:=nv 7475 f135
def yhl:=nv 935 f135
def zl1:=nv 30 f135
theorem xd5:xc T 135 27 (.seq (yhs) (.seq (yhr) (.seq (.seq (yhq) (.block 0 (.loop zjs))) (.seq (zl1) (.ret))))):=zk T (F:=f135) (by kernel_rfl) (by kernel_rfl) (by kernel_rfl)
@[go_sem↓]theorem run135:RR yhs [oo 4 (oi 0)]∧RR yhr [oo 5 (oi 0)]∧RR yhq [oo 10 (oM 0),oo 11 (oN 10 62),oo 12 (.move (.const (.int .i64 0)))]∧RR yhp [oo 13 (oB .lss 3 12 11)]∧RR yho [oo 14 (oI 62 10 12),oo 15 (oL 160 14),oo 7 (.alloc 160),ow 160 7 15]∧RR yhn [oo 17 (oL 160 7),oo 18 (oM 1),oo 19 (o2 181 17 18 160 3),oo 16 (oM 19),oo 20 (oX 16 0),oo 21 (oX 16 1),oo 8 (oG 20),oo 9 (oG 21)]∧RR yhm [oo 22 (oM 5),oo 23 (oM 8),oo 24 (oB .add 3 22 23),oo 5 (oG 24)]∧RR yhl [oo 25 (oC .add 3 12 1),oo 12 (oM 25)]∧RI zjs (.seq (yhp) (.seq (.cond (.tmp 13) (.skip) (.exit 0)) (.seq (.block 1 (.seq (yho) (.seq (yhn) (yhm)))) (yhl))))∧ze T 135 zjs [1,5,10,11,12]∧RR zl1 [oo 26 (oM 5),oo 4 (oG 26)]∧zw T 135 [.tmp 4] false:=by refine⟨zz T ?_,zz T ?_,zz T ?_,zz T ?_,zz T ?_,zz T ?_,zz T ?_,zz T ?_,zr T ?_,zo T ?_,zz T ?_,zy T (F:=f135) ?_ ?_ ?_⟩<;>kernel_rfl
def yhk:=nv 2 f136
def yhj:=nv 6 f136
theorem xd4:xc T 136 16 (.seq (yhk) (.seq (yhj) (.ret))):=zk T (F:=f136) (by kernel_rfl) (by kernel_rfl) (by kernel_rfl)
@[go_sem↓]theorem run136:RR yhk [oo 6 (oi 0)]∧RR yhj [oo 7 (oM 0),oo 8 (oM 1),oo 9 (oB .lss 3 7 8),oo 10 (oM 9),of 11 (oM 0) 10,of 12 (oM 2) 10,of 13 (oB .gtr 3 11 12) 10,oo 14 (.pick (.tmp 10) (.const (.bool true)) (.tmp 13)),oo 15 (.call ⟨.value (.func 75),#[.tmp 14,.const (.int .i64 3)],#[4,39]⟩),oo 6 (oG 15)]∧zw T 136 [.tmp 6] false:=by refine⟨zz T ?_,zz T ?_,zy T (F:=f136) ?_ ?_ ?_⟩<;>kernel_rfl
def yhh:=nv 2 f137
def yhg:=nv 6 f137
def yhf:=nv 28 f137
def zjr:=nv 116 f137
def yhe:=nv 232 f137
def yhd:=nv 3736 f137
def yhc:=nv 3737 f137
def yhb:=nv 935 f137
def zl0:=nv 30 f137
theorem xd3:xc T 137 22 (.seq (yhh) (.seq (yhg) (.seq (.seq (yhf) (.block 0 (.loop zjr))) (.seq (zl0) (.ret))))):=zk T (F:=f137) (by kernel_rfl) (by kernel_rfl) (by kernel_rfl)
@[go_sem↓]theorem run137:RR yhh [oo 4 on]∧RR yhg [oo 5 on]∧RR yhf [oo 8 (oM 0),oo 9 (oN 8 35),oo 10 (.move (.const (.int .i64 0)))]∧RR yhe [oo 11 (oB .lss 3 10 9)]∧RR yhd [oo 12 (oI 35 8 10),oo 13 (oL 3 12),oo 7 (oG 13)]∧RR yhc [oo 14 (oM 5),oo 15 (oM 1),oo 16 (oM 7),oo 17 (.call ⟨.value (.tmp 15),#[.tmp 16],#[3]⟩),oo 18 (oS 148 17),oo 19 (oA 14 18 148),oo 5 (oG 19)]∧RR yhb [oo 20 (oC .add 3 10 1),oo 10 (oM 20)]∧RI zjr (.seq (yhe) (.seq (.cond (.tmp 11) (.skip) (.exit 0)) (.seq (.block 1 (.seq (yhd) (yhc))) (yhb))))∧ze T 137 zjr [1,5,8,9,10]∧RR zl0 [oo 21 (oM 5),oo 4 (oG 21)]∧zw T 137 [.tmp 4] false:=by refine⟨zz T ?_,zz T ?_,zz T ?_,zz T ?_,zz T ?_,zz T ?_,zz T ?_,zr T ?_,zo T ?_,zz T ?_,zy T (F:=f137) ?_ ?_ ?_⟩<;>kernel_rfl
def yha:=nv 2 f138
def yg9:=nv 6 f138
theorem xd2:xc T 138 5 (.seq (yha) (.seq (yg9) (.ret))):=zk T (F:=f138) (by kernel_rfl) (by kernel_rfl) (by kernel_rfl)
@[go_sem↓]theorem run138:RR yha [oo 2 (oi 0)]∧RR yg9 [oo 3 (oM 0),oo 4 (.call ⟨.value (.func 136),#[.tmp 3,.const (.int .i64 0),.const (.int .i64 1200)],#[3,3,3]⟩),oo 2 (oG 4)]∧zw T 138 [.tmp 2] false:=by refine⟨zz T ?_,zz T ?_,zy T (F:=f138) ?_ ?_ ?_⟩<;>kernel_rfl
def yea:=nv 2 f178
def yd9:=nv 6 f178
def yd8:=nv 28 f178
def zjj:=nv 116 f178
def yd7:=nv 232 f178
def yd6:=nv 3736 f178
def yd5:=nv 3737 f178
def yd4:=nv 935 f178
def zlq:=nv 30 f178
theorem xdl:xc T 178 22 (.seq (yea) (.seq (yd9) (.seq (.seq (yd8) (.block 0 (.loop zjj))) (.seq (zlq) (.ret))))):=zk T (F:=f178) (by kernel_rfl) (by kernel_rfl) (by kernel_rfl)
@[go_sem↓]theorem run178:RR yea [oo 4 on]∧RR yd9 [oo 5 on]∧RR yd8 [oo 8 (oM 0),oo 9 (oN 8 62),oo 10 (.move (.const (.int .i64 0)))]∧RR yd7 [oo 11 (oB .lss 3 10 9)]∧RR yd6 [oo 12 (oI 62 8 10),oo 13 (oL 160 12),oo 7 (.alloc 160),ow 160 7 13]∧RR yd5 [oo 14 (oM 5),oo 15 (oM 1),oo 16 (oL 160 7),oo 17 (.call ⟨.value (.tmp 15),#[.tmp 16],#[160]⟩),oo 18 (oS 148 17),oo 19 (oA 14 18 148),oo 5 (oG 19)]∧RR yd4 [oo 20 (oC .add 3 10 1),oo 10 (oM 20)]∧RI zjj (.seq (yd7) (.seq (.cond (.tmp 11) (.skip) (.exit 0)) (.seq (.block 1 (.seq (yd6) (yd5))) (yd4))))∧ze T 178 zjj [1,5,8,9,10]∧RR zlq [oo 21 (oM 5),oo 4 (oG 21)]∧zw T 178 [.tmp 4] false:=by refine⟨zz T ?_,zz T ?_,zz T ?_,zz T ?_,zz T ?_,zz T ?_,zz T ?_,zr T ?_,zo T ?_,zz T ?_,zy T (F:=f178) ?_ ?_ ?_⟩<;>kernel_rfl
@[go_sem]theorem fr205:xd T 205 false none false∧zf T 205 39:=by refine⟨⟨?_,?_,?_⟩,zh T (F:=f205) ?_ ?_⟩<;>kernel_rfl
def yd3:=nv 2 f179
def yd2:=nv 6 f179
theorem xdk:xc T 179 14 (.seq (yd3) (.seq (yd2) (.ret))):=zk T (F:=f179) (by kernel_rfl) (by kernel_rfl) (by kernel_rfl)
@[go_sem↓]theorem run179:RR yd3 [oo 1 (.box 160 (.tmp 0)),oo 2 (oi 0)]∧RD yd2 179 [oo 3 (oF 160 1 0),oo 4 (oL 158 3),oo 5 (o1 205 4 158),oo 6 (oF 160 1 1),oo 7 (oL 3 6),oo 8 (.call ⟨.value (.func 136),#[.tmp 7,.const (.int .i64 0),.const (.int .i64 1000)],#[3,3,3]⟩),oo 9 (oF 160 1 2),oo 10 (oL 3 9),oo 11 (.call ⟨.value (.func 136),#[.tmp 10,.const (.int .i64 0),.const (.int .i64 10)],#[3,3,3]⟩),oo 12 (.buildSlice 148 3 #[(0,.tmp 5),(1,.tmp 8),(2,.tmp 11)]),oo 13 (o1 71 12 148),oo 2 (oG 13)] [(0,3),(1,3),(2,3),(0,4),(1,4),(2,4),(0,6),(1,6),(2,6),(3,6),(4,6),(5,6),(0,7),(1,7),(2,7),(3,7),(4,7),(5,7)]∧zw T 179 [.tmp 2] false:=by refine⟨zz T ?_,xv T (id:=1) ?_ ?_,zy T (F:=f179) ?_ ?_ ?_⟩<;>kernel_rfl
@[go_sem]theorem fr206:xd T 206 false none false∧zf T 206 3:=by refine⟨⟨?_,?_,?_⟩,zh T (F:=f206) ?_ ?_⟩<;>kernel_rfl
@[go_sem]theorem fr207:xd T 207 false none false∧zf T 207 3:=by refine⟨⟨?_,?_,?_⟩,zh T (F:=f207) ?_ ?_⟩<;>kernel_rfl
def yd1:=nv 2 f180
def yd0:=nv 6 f180
def ydu:=nv 28 f180
def zcn:=nv 116 f180
def ydt:=nv 232 f180
def yds:=nv 3736 f180
def ydr:=nv 7474 f180
def ydq:=nv 29900 f180
def zji:=nv 119604 f180
def ydp:=nv 239208 f180
def ydo:=nv 3827352 f180
def ydn:=nv 3827353 f180
def ydz:=nv 956839 f180
def r180_11:=nv 29902 f180
def r180_12:=nv 59806 f180
def zd5:=nv 239228 f180
def ydy:=nv 478456 f180
def ydx:=nv 7655320 f180
def zjh:=nv 61242568 f180
def ydw:=nv 244970272 f180
def ydv:=nv 244970274 f180
def r180_17:=nv 61242572 f180
def r180_18:=nv 244970292 f180
def zlp:=nv 30621287 f180
def zlo:=nv 1913831 f180
def zeo:=nv 935 f180
def r180_22:=nv 30 f180
theorem xdi:xc T 180 68 (.seq (yd1) (.seq (yd0) (.seq (.seq (ydu) (.block 0 (.loop zcn))) (.seq (r180_22) (.ret))))):=zk T (F:=f180) (by kernel_rfl) (by kernel_rfl) (by kernel_rfl)
@[go_sem↓]theorem run180:RR yd1 [oo 2 (.assign (.const (.map none)))]∧RR yd0 [oo 10 (.makeMap 261 none),oo 3 (oG 10)]∧RR ydu [oo 11 (oM 0),oo 12 (oN 11 62),oo 13 (.move (.const (.int .i64 0)))]∧RR ydt [oo 14 (oB .lss 3 13 12)]∧RR yds [oo 15 (oI 62 11 13),oo 16 (oL 160 15),oo 5 (.alloc 160),ow 160 5 16]∧RR ydr [oo 17 (oF 160 5 0),oo 18 (oL 158 17),oo 19 (o1 206 18 158),oo 20 (oC .add 3 19 1),oo 21 (.makeSlice 35 (.tmp 20) (.tmp 20)),oo 6 (oG 21)]∧RR ydq [oo 22 (oM 6),oo 23 (oN 22 35),oo 24 (.move (.const (.int .i64 0)))]∧RR ydp [oo 25 (oB .lss 3 24 23)]∧RR ydo [oo 26 (oM 24),oo 7 (oG 26)]∧RR ydn [oo 27 (oM 6),oo 28 (oM 7),oo 29 (oL 160 5),oo 30 (oM 7),oo 31 (o2 207 29 30 160 3),oo 32 (oI 35 27 28),ow 3 32 31]∧RR ydz [oo 33 (oC .add 3 24 1),oo 24 (oM 33)]∧RI zji (.seq (ydp) (.seq (.cond (.tmp 25) (.skip) (.exit 2)) (.seq (.block 3 (.seq (ydo) (ydn))) (ydz))))∧ze T 180 zji [3,5,6,11,12,13,23,24]∧RR r180_11 [oo 34 (oM 6),oo 35 (oN 34 35),oo 36 (oC .sub 3 35 1),oo 8 (oG 36)]∧RR r180_12 [oo 37 (.move (.const (.int .i64 0)))]∧RR ydy [oo 38 (oC .lss 3 37 201)]∧RR ydx [oo 39 (oM 37),oo 9 (oG 39)]∧RR ydw [oo 40 (oM 8),oo 41 (oC .geq 3 40 0),oo 42 (oM 41),ot 43 (oM 6) 42,ot 44 (oM 8) 42,ot 45 (oI 35 43 44) 42,ot 46 (oL 3 45) 42,ot 47 (oM 9) 42,ot 48 (oB .lss 3 46 47) 42,oo 49 (.pick (.tmp 42) (.tmp 48) (.const (.bool false)))]∧RR ydv [oo 50 (oM 8),oo 51 (oC .sub 3 50 1),oo 8 (oG 51)]∧RI zjh (.seq (.seq (ydw) (.cond (.tmp 49) (.skip) (.exit 6))) (.block 7 (ydv)))∧ze T 180 zjh [3,5,6,8,9,11,12,13,37]∧RR r180_17 [oo 52 (oM 8),oo 53 (oC .lss 3 52 0)]∧RR r180_18 [oo 54 (oM 3),oo 55 (oM 9),oo 56 (.lookup 261 (.tmp 54) (.tmp 55) false),oo 57 (oF 160 5 2),oo 58 (oL 3 57),oo 59 (oB .sub 3 56 58),⟨none,.mapUpdate 261 (.tmp 54) (.tmp 55) (.tmp 59),none⟩]∧RR zlp [oo 60 (oM 3),oo 61 (oM 9),oo 62 (.lookup 261 (.tmp 60) (.tmp 61) false),oo 63 (oM 8),oo 64 (oB .add 3 62 63),⟨none,.mapUpdate 261 (.tmp 60) (.tmp 61) (.tmp 64),none⟩]∧RR zlo [oo 65 (oC .add 3 37 1),oo 37 (oM 65)]∧RI zd5 (.seq (ydy) (.seq (.cond (.tmp 38) (.skip) (.exit 4)) (.seq (.block 5 (.seq (ydx) (.seq (.block 6 (.loop zjh)) (.seq (.seq (r180_17) (.cond (.tmp 53) (.seq (r180_18) (.exit 5)) (.skip))) (zlp))))) (zlo))))∧ze T 180 zd5 [3,5,6,8,11,12,13,37]∧RR zeo [oo 66 (oC .add 3 13 1),oo 13 (oM 66)]∧RI zcn (.seq (ydt) (.seq (.cond (.tmp 14) (.skip) (.exit 0)) (.seq (.block 1 (.seq (yds) (.seq (ydr) (.seq (.seq (ydq) (.block 2 (.loop zji))) (.seq (r180_11) (.seq (r180_12) (.block 4 (.loop zd5)))))))) (zeo))))∧ze T 180 zcn [3,11,12,13]∧RR r180_22 [oo 67 (oM 3),oo 2 (oG 67)]∧zw T 180 [.tmp 2] true:=by refine⟨zz T ?_,zz T ?_,zz T ?_,zz T ?_,zz T ?_,zz T ?_,zz T ?_,zz T ?_,zz T ?_,zz T ?_,zz T ?_,zr T ?_,zo T ?_,zz T ?_,zz T ?_,zz T ?_,zz T ?_,zz T ?_,zz T ?_,zr T ?_,zo T ?_,zz T ?_,zz T ?_,zz T ?_,zz T ?_,zr T ?_,zo T ?_,zz T ?_,zr T ?_,zo T ?_,zz T ?_,zy T (F:=f180) ?_ ?_ ?_⟩<;>kernel_rfl
def ydm:=nv 2 f181
def ydl:=nv 12 f181
def zol:=nv 52 f181
def ydk:=nv 208 f181
def ydi:=nv 840 f181
def ydh:=nv 3364 f181
def ydj:=nv 211 f181
def ydg:=nv 14 f181
theorem xdh:xc T 181 23 (.seq (ydm) (.seq (.seq (ydl) (.block 0 (.loop zol))) (.seq (ydg) (.ret)))):=zk T (F:=f181) (by kernel_rfl) (by kernel_rfl) (by kernel_rfl)
@[go_sem↓]theorem run181:RR ydm [oo 2 (.box 160 (.tmp 0)),oo 4 (oi 0),oo 5 (.assign (.const (.bool false)))]∧RR ydl [oo 7 (oF 160 2 0),oo 8 (oL 158 7),oo 9 (o1 206 8 158),oo 6 (oG 9)]∧RR ydk [oo 10 (oM 6),oo 11 (oC .geq 3 10 0)]∧RR ydi [oo 14 (oL 160 2),oo 15 (oM 6),oo 16 (o2 207 14 15 160 3),oo 17 (oM 1),oo 18 (oB .geq 3 16 17)]∧RR ydh [oo 19 (oM 6),oo 4 (oG 19),oo 5 (.assign (.const (.bool true)))]∧RR ydj [oo 12 (oM 6),oo 13 (oC .sub 3 12 1),oo 6 (oG 13)]∧RI zol (.seq (.seq (ydk) (.cond (.tmp 11) (.skip) (.exit 0))) (.seq (.block 1 (.seq (ydi) (.cond (.tmp 18) (.seq (ydh) (.ret)) (.skip)))) (ydj)))∧ze T 181 zol [1,2,6]∧RR ydg [oo 20 (oF 160 2 2),oo 21 (oL 3 20),oo 22 (.unOp .neg 3 (.tmp 21)),oo 4 (oG 22),oo 5 (.assign (.const (.bool false)))]∧zw T 181 [.tmp 4,.tmp 5] false:=by refine⟨zz T ?_,zz T ?_,zz T ?_,zz T ?_,zz T ?_,zz T ?_,zr T ?_,zo T ?_,zz T ?_,zy T (F:=f181) ?_ ?_ ?_⟩<;>kernel_rfl
def ybn:=nv 2 f205
def ybm:=nv 12 f205
def ybi:=nv 26 f205
def ybh:=nv 108 f205
def ybg:=nv 14 f205
def ybf:=nv 60 f205
def zja:=nv 244 f205
def ybe:=nv 488 f205
def ybd:=nv 7832 f205
def ybc:=nv 31332 f205
def ybb:=nv 62666 f205
def ybl:=nv 250668 f205
def ybk:=nv 15667 f205
def ybj:=nv 1959 f205
def zli:=nv 62 f205
theorem xc5:xc T 205 70 (.seq (ybn) (.seq (.seq (ybm) (.seq (ybi) (.cond (.tmp 19) (.seq (ybh) (.ret)) (.skip)))) (.seq (ybg) (.seq (.seq (ybf) (.block 0 (.loop zja))) (.seq (zli) (.ret)))))):=zk T (F:=f205) (by kernel_rfl) (by kernel_rfl) (by kernel_rfl)
@[go_sem↓]theorem run205:RR ybn [oo 2 (oi 0)]∧RR ybm [oo 8 (oM 0),oo 9 (oN 8 158),oo 10 (oC .lss 3 9 2),oo 11 (.call ⟨.value (.func 75),#[.tmp 10,.const (.int .i64 16)],#[4,39]⟩),oo 12 (oM 0),oo 13 (oN 12 158),oo 14 (oC .gtr 3 13 8),oo 15 (.call ⟨.value (.func 75),#[.tmp 14,.const (.int .i64 5)],#[4,39]⟩),oo 16 (.buildSlice 148 2 #[(0,.tmp 11),(1,.tmp 15)]),oo 17 (o1 71 16 148),oo 3 (oG 17)]∧RR ybi [oo 18 (oM 3),oo 19 (oC .neq 39 18 0)]∧RR ybh [oo 20 (oM 3),oo 2 (oG 20)]∧RR ybg [oo 21 (.build 76 #[(0,.const (.int .i64 (-1))),(1,.const (.int .i64 200))]),oo 4 (.alloc 76),ow 76 4 21]∧RR ybf [oo 22 (oM 0),oo 23 (oN 22 158),oo 24 (.move (.const (.int .i64 0)))]∧RR ybe [oo 25 (oB .lss 3 24 23)]∧RR ybd [oo 26 (oM 24),oo 27 (oI 158 22 24),oo 28 (oL 76 27),oo 6 (.alloc 76),oo 5 (oG 26),ow 76 6 28]∧RD ybc 205 [oo 29 (oF 76 6 0),oo 30 (oL 3 29),oo 31 (.call ⟨.value (.func 136),#[.tmp 30,.const (.int .i64 0),.const (.int .i64 100)],#[3,3,3]⟩),oo 32 (oF 76 6 1),oo 33 (oL 3 32),oo 34 (.call ⟨.value (.func 136),#[.tmp 33,.const (.int .i64 0),.const (.int .i64 200)],#[3,3,3]⟩),oo 35 (oM 5),oo 36 (oC .eql 3 35 0),oo 37 (oM 36),ot 38 (oL 76 6) 37,ot 39 (oF 76 6 1) 37,ot 40 (oL 3 39) 37,ot 41 (.build 76 #[(1,.tmp 40)]) 37,ot 42 (oB .neq 76 38 41) 37,oo 43 (.pick (.tmp 37) (.tmp 42) (.const (.bool false))),oo 44 (oM 43),of 45 (oF 76 6 0) 44,of 46 (oL 3 45) 44,of 47 (oF 76 4 0) 44,of 48 (oL 3 47) 44,of 49 (oB .leq 3 46 48) 44,oo 50 (.pick (.tmp 44) (.const (.bool true)) (.tmp 49)),oo 51 (oM 50),of 52 (oF 76 6 1) 51,of 53 (oL 3 52) 51,of 54 (oF 76 4 1) 51,of 55 (oL 3 54) 51,of 56 (oB .gtr 3 53 55) 51,oo 57 (.pick (.tmp 51) (.const (.bool true)) (.tmp 56)),oo 58 (.call ⟨.value (.func 75),#[.tmp 57,.const (.int .i64 11)],#[4,39]⟩),oo 59 (.buildSlice 148 3 #[(0,.tmp 31),(1,.tmp 34),(2,.tmp 58)]),oo 60 (o1 71 59 148),oo 7 (oG 60)] [(0,3),(1,3),(2,3),(0,4),(1,4),(2,4),(0,6),(1,6),(2,6),(3,6),(4,6),(5,6),(0,7),(1,7),(2,7),(3,7),(4,7),(5,7),(9,10),(9,11),(9,12),(16,18),(17,18),(16,19),(17,19),(23,25),(24,25),(23,26),(24,26)]∧RR ybb [oo 61 (oM 7),oo 62 (oC .neq 39 61 0)]∧RR ybl [oo 63 (oM 7),oo 2 (oG 63)]∧RR ybk [oo 64 (oL 76 6),ow 76 4 64]∧RR ybj [oo 65 (oC .add 3 24 1),oo 24 (oM 65)]∧RI zja (.seq (ybe) (.seq (.cond (.tmp 25) (.skip) (.exit 0)) (.seq (.block 1 (.seq (ybd) (.seq (.seq (ybc) (.seq (ybb) (.cond (.tmp 62) (.seq (ybl) (.ret)) (.skip)))) (ybk)))) (ybj))))∧ze T 205 zja [4,22,23,24]∧RR zli [oo 66 (oF 76 4 1),oo 67 (oL 3 66),oo 68 (oC .neq 3 67 0),oo 69 (.call ⟨.value (.func 75),#[.tmp 68,.const (.int .i64 32)],#[4,39]⟩),oo 2 (oG 69)]∧zw T 205 [.tmp 2] false:=by refine⟨zz T ?_,zz T ?_,zz T ?_,zz T ?_,zz T ?_,zz T ?_,zz T ?_,zz T ?_,xv T (id:=8) ?_ ?_,zz T ?_,zz T ?_,zz T ?_,zz T ?_,zr T ?_,zo T ?_,zz T ?_,zy T (F:=f205) ?_ ?_ ?_⟩<;>kernel_rfl
def yba:=nv 2 f206
def ya9:=nv 6 f206
theorem xc4:xc T 206 10 (.seq (yba) (.seq (ya9) (.ret))):=zk T (F:=f206) (by kernel_rfl) (by kernel_rfl) (by kernel_rfl)
@[go_sem↓]theorem run206:RR yba [oo 2 (oi 0)]∧RR ya9 [oo 3 (oM 0),oo 4 (oM 0),oo 5 (oN 4 158),oo 6 (oC .sub 3 5 1),oo 7 (oI 158 3 6),oo 8 (oF 76 7 0),oo 9 (oL 3 8),oo 2 (oG 9)]∧zw T 206 [.tmp 2] false:=by refine⟨zz T ?_,zz T ?_,zy T (F:=f206) ?_ ?_ ?_⟩<;>kernel_rfl
@[go_sem]theorem fr225:xd T 225 false none false∧zf T 225 3:=by refine⟨⟨?_,?_,?_⟩,zh T (F:=f225) ?_ ?_⟩<;>kernel_rfl
def ya8:=nv 2 f207
def ya7:=nv 6 f207
theorem xc3:xc T 207 13 (.seq (ya8) (.seq (ya7) (.ret))):=zk T (F:=f207) (by kernel_rfl) (by kernel_rfl) (by kernel_rfl)
@[go_sem↓]theorem run207:RR ya8 [oo 2 (.box 160 (.tmp 0)),oo 4 (oi 0)]∧RD ya7 207 [oo 5 (oF 160 2 0),oo 6 (oL 158 5),oo 7 (oM 1),oo 8 (o2 225 6 7 158 3),oo 9 (oF 160 2 1),oo 10 (oL 3 9),oo 11 (oB .mul 3 8 10),oo 12 (oC .quo 3 11 1000),oo 4 (oG 12)] [(0,2),(1,2),(0,4),(1,4),(2,4),(3,4),(0,5),(1,5),(2,5),(3,5)]∧zw T 207 [.tmp 4] false:=by refine⟨zz T ?_,xv T (id:=1) ?_ ?_,zy T (F:=f207) ?_ ?_ ?_⟩<;>kernel_rfl
@[go_sem]theorem fr243:xd T 243 false none false∧zf T 243 3:=by refine⟨⟨?_,?_,?_⟩,zh T (F:=f243) ?_ ?_⟩<;>kernel_rfl
def zzq:=nv 2 f225
def zzp:=nv 12 f225
def zi8:=nv 52 f225
def zzo:=nv 208 f225
def zzm:=nv 840 f225
def zzl:=nv 3364 f225
def zzk:=nv 6730 f225
def zzj:=nv 26924 f225
def zzi:=nv 3366 f225
def zzh:=nv 13468 f225
def zzn:=nv 211 f225
def zlg:=nv 14 f225
theorem xcx:xc T 225 55 (.seq (zzq) (.seq (.seq (zzp) (.block 0 (.loop zi8))) (.seq (zlg) (.ret)))):=zk T (F:=f225) (by kernel_rfl) (by kernel_rfl) (by kernel_rfl)
@[go_sem↓]theorem run225:RR zzq [oo 4 (oi 0)]∧RR zzp [oo 5 (oi 1)]∧RR zzo [oo 9 (oM 5),oo 10 (oM 0),oo 11 (oN 10 158),oo 12 (oB .lss 3 9 11)]∧RD zzm 225 [oo 15 (oM 0),oo 16 (oM 5),oo 17 (oC .sub 3 16 1),oo 18 (oI 158 15 17),oo 19 (oL 76 18),oo 20 (oM 0),oo 21 (oM 5),oo 22 (oI 158 20 21),oo 23 (oL 76 22),oo 6 (.alloc 76),oo 7 (.alloc 76),ow 76 6 19,ow 76 7 23] [(0,1),(0,2),(0,5),(1,5),(2,5),(3,5),(4,5),(0,6),(1,6),(2,6),(3,6),(4,6),(5,6),(0,7),(1,7),(2,7),(3,7),(4,7),(0,8),(1,8),(2,8),(3,8),(4,8),(0,9),(1,9),(2,9),(3,9),(4,9),(5,9),(6,9),(7,9),(8,9),(0,10),(1,10),(2,10),(3,10),(4,10),(5,10),(6,10),(7,10),(8,10),(9,10),(5,11),(6,11),(7,11),(8,11)]∧RR zzl [oo 24 (oF 76 6 1),oo 25 (oL 3 24),oo 26 (oF 76 7 1),oo 27 (oL 3 26),oo 28 (.build 250 #[(0,.tmp 25),(1,.tmp 27)]),oo 8 (.alloc 250),ow 250 8 28]∧RR zzk [oo 29 (oL 250 8),oo 30 (.build 250 #[]),oo 31 (oB .eql 250 29 30)]∧RR zzj [oo 4 (oi 0)]∧RR zzi [oo 32 (oM 1),oo 33 (oF 76 7 0),oo 34 (oL 3 33),oo 35 (oB .lss 3 32 34)]∧RD zzh 225 [oo 36 (oF 76 6 1),oo 37 (oL 3 36),oo 38 (oF 76 7 1),oo 39 (oL 3 38),oo 40 (oF 76 6 1),oo 41 (oL 3 40),oo 42 (oB .sub 3 39 41),oo 43 (oM 1),oo 44 (oF 76 6 0),oo 45 (oL 3 44),oo 46 (oB .sub 3 43 45),oo 47 (oB .mul 3 42 46),oo 48 (oF 76 7 0),oo 49 (oL 3 48),oo 50 (oF 76 6 0),oo 51 (oL 3 50),oo 52 (oB .sub 3 49 51),oo 53 (o2 243 47 52 3 3),oo 54 (oB .add 3 37 53),oo 4 (oG 54)] [(0,2),(1,2),(0,3),(1,3),(0,4),(1,4),(2,4),(3,4),(0,5),(1,5),(2,5),(3,5),(0,6),(1,6),(0,7),(1,7),(2,7),(3,7),(4,7),(5,7),(6,7),(0,8),(1,8),(2,8),(3,8),(4,8),(5,8),(6,8),(7,8),(0,9),(1,9),(2,9),(3,9),(4,9),(5,9),(6,9),(7,9),(0,10),(1,10),(2,10),(3,10),(4,10),(5,10),(6,10),(0,11),(1,11),(0,12),(1,12),(2,12),(3,12),(4,12),(5,12),(6,12),(7,12),(8,12),(9,12),(10,12),(11,12),(0,13),(1,13),(2,13),(3,13),(4,13),(5,13),(6,13),(7,13),(8,13),(9,13),(10,13),(11,13),(0,14),(1,14),(2,14),(3,14),(4,14),(5,14),(6,14),(7,14),(8,14),(9,14),(10,14),(11,14),(12,14),(13,14),(0,15),(1,15),(2,15),(3,15),(4,15),(5,15),(6,15),(7,15),(8,15),(9,15),(10,15),(11,15),(12,15),(13,15),(0,16),(1,16),(2,16),(3,16),(4,16),(5,16),(6,16),(7,16),(8,16),(9,16),(10,16),(11,16),(0,17),(1,17)]∧RR zzn [oo 13 (oM 5),oo 14 (oC .add 3 13 1),oo 5 (oG 14)]∧RI zi8 (.seq (.seq (zzo) (.cond (.tmp 12) (.skip) (.exit 0))) (.seq (.block 1 (.seq (zzm) (.seq (.seq (zzl) (.seq (zzk) (.cond (.tmp 31) (.seq (zzj) (.ret)) (.skip)))) (.seq (zzi) (.cond (.tmp 35) (.seq (zzh) (.ret)) (.skip)))))) (zzn)))∧ze T 225 zi8 [0,1,5]∧RR zlg [oo 4 (oi 0)]∧zw T 225 [.tmp 4] false:=by refine⟨zz T ?_,zz T ?_,zz T ?_,xv T (id:=4) ?_ ?_,zz T ?_,zz T ?_,zz T ?_,zz T ?_,xv T (id:=9) ?_ ?_,zz T ?_,zr T ?_,zo T ?_,zz T ?_,zy T (F:=f225) ?_ ?_ ?_⟩<;>kernel_rfl
def zyz:=nv 2 f243
def zyy:=nv 6 f243
def zyx:=nv 28 f243
def zyw:=nv 58 f243
def zyv:=nv 30 f243
theorem xct:xc T 243 17 (.seq (zyz) (.seq (zyy) (.seq (.seq (zyx) (.cond (.tmp 13) (zyw) (.skip))) (.seq (zyv) (.ret))))):=zk T (F:=f243) (by kernel_rfl) (by kernel_rfl) (by kernel_rfl)
@[go_sem↓]theorem run243:RR zyz [oo 4 (oi 0)]∧RR zyy [oo 6 (oM 0),oo 7 (oM 1),oo 8 (oB .quo 3 6 7),oo 5 (oG 8)]∧RR zyx [oo 9 (oM 5),oo 10 (oM 1),oo 11 (oB .mul 3 9 10),oo 12 (oM 0),oo 13 (oB .gtr 3 11 12)]∧RR zyw [oo 14 (oM 5),oo 15 (oC .sub 3 14 1),oo 5 (oG 15)]∧RR zyv [oo 16 (oM 5),oo 4 (oG 16)]∧zw T 243 [.tmp 4] false:=by refine⟨zz T ?_,zz T ?_,zz T ?_,zz T ?_,zz T ?_,zy T (F:=f243) ?_ ?_ ?_⟩<;>kernel_rfl
@[go_sem]theorem fr275:xd T 275 false none false∧zf T 275 4:=by refine⟨⟨?_,?_,?_⟩,zh T (F:=f275) ?_ ?_⟩<;>kernel_rfl
@[go_sem]theorem fr276:xd T 276 false none false∧zf T 276 4:=by refine⟨⟨?_,?_,?_⟩,zh T (F:=f276) ?_ ?_⟩<;>kernel_rfl
def zxs:=nv 2 f275
def zxr:=nv 6 f275
theorem xcr:xc T 275 8 (.seq (zxs) (.seq (zxr) (.ret))):=zk T (F:=f275) (by kernel_rfl) (by kernel_rfl) (by kernel_rfl)
@[go_sem↓]theorem run275:RR zxs [oo 4 (.assign (.const (.bool false)))]∧RR zxr [oo 5 (oM 0),oo 6 (oM 1),oo 7 (o2 276 5 6 35 35),oo 4 (oG 7)]∧zw T 275 [.tmp 4] false:=by refine⟨zz T ?_,zz T ?_,zy T (F:=f275) ?_ ?_ ?_⟩<;>kernel_rfl
def zxq:=nv 2 f276
def zxp:=nv 12 f276
def zxo:=nv 52 f276
def zxn:=nv 28 f276
def zi5:=nv 116 f276
def zxm:=nv 232 f276
def zxl:=nv 3736 f276
def zxk:=nv 7474 f276
def zxj:=nv 29900 f276
def zxi:=nv 935 f276
def zld:=nv 30 f276
theorem xcq:xc T 276 26 (.seq (zxq) (.seq (.seq (zxp) (.cond (.tmp 10) (.seq (zxo) (.ret)) (.skip))) (.seq (.seq (zxn) (.block 0 (.loop zi5))) (.seq (zld) (.ret))))):=zk T (F:=f276) (by kernel_rfl) (by kernel_rfl) (by kernel_rfl)
@[go_sem↓]theorem run276:RR zxq [oo 4 (.assign (.const (.bool false)))]∧RR zxp [oo 6 (oM 0),oo 7 (oN 6 35),oo 8 (oM 1),oo 9 (oN 8 35),oo 10 (oB .neq 3 7 9)]∧RR zxo [oo 4 (.assign (.const (.bool false)))]∧RR zxn [oo 11 (oM 0),oo 12 (oN 11 35),oo 13 (.move (.const (.int .i64 0)))]∧RR zxm [oo 14 (oB .lss 3 13 12)]∧RR zxl [oo 15 (oM 13),oo 5 (oG 15)]∧RD zxk 276 [oo 16 (oM 0),oo 17 (oM 5),oo 18 (oI 35 16 17),oo 19 (oL 3 18),oo 20 (oM 1),oo 21 (oM 5),oo 22 (oI 35 20 21),oo 23 (oL 3 22),oo 24 (oB .neq 3 19 23)] [(0,1),(0,4),(1,4),(2,4),(3,4),(0,5),(1,5),(2,5),(3,5),(4,5),(0,6),(1,6),(2,6),(3,6),(0,7),(1,7),(2,7),(3,7)]∧RR zxj [oo 4 (.assign (.const (.bool false)))]∧RR zxi [oo 25 (oC .add 3 13 1),oo 13 (oM 25)]∧RI zi5 (.seq (zxm) (.seq (.cond (.tmp 14) (.skip) (.exit 0)) (.seq (.block 1 (.seq (zxl) (.seq (zxk) (.cond (.tmp 24) (.seq (zxj) (.ret)) (.skip))))) (zxi))))∧ze T 276 zi5 [0,1,12,13]∧RR zld [oo 4 (.assign (.const (.bool true)))]∧zw T 276 [.tmp 4] false:=by refine⟨zz T ?_,zz T ?_,zz T ?_,zz T ?_,zz T ?_,zz T ?_,xv T (id:=6) ?_ ?_,zz T ?_,zz T ?_,zr T ?_,zo T ?_,zz T ?_,zy T (F:=f276) ?_ ?_ ?_⟩<;>kernel_rfl
@[go_sem]theorem fr277:xd T 277 false none false∧zf T 277 4:=by refine⟨⟨?_,?_,?_⟩,zh T (F:=f277) ?_ ?_⟩<;>kernel_rfl
def zxh:=nv 2 f277
def zxg:=nv 12 f277
def zi4:=nv 52 f277
def zxf:=nv 104 f277
def zxe:=nv 1688 f277
def zxd:=nv 3378 f277
def zxc:=nv 13516 f277
def zxb:=nv 423 f277
def zlc:=nv 14 f277
theorem xcp:xc T 277 21 (.seq (zxh) (.seq (.seq (zxg) (.block 0 (.loop zi4))) (.seq (zlc) (.ret)))):=zk T (F:=f277) (by kernel_rfl) (by kernel_rfl) (by kernel_rfl)
@[go_sem↓]theorem run277:RR zxh [oo 4 (.assign (.const (.bool false)))]∧RR zxg [oo 7 (oM 1),oo 8 (oN 7 35),oo 9 (.move (.const (.int .i64 0)))]∧RR zxf [oo 10 (oB .lss 3 9 8)]∧RR zxe [oo 11 (oM 9),oo 12 (oI 35 7 9),oo 13 (oL 3 12),oo 5 (oG 11),oo 6 (oG 13)]∧RR zxd [oo 14 (oM 6),oo 15 (oM 0),oo 16 (oM 5),oo 17 (oI 35 15 16),oo 18 (oL 3 17),oo 19 (oB .gtr 3 14 18)]∧RR zxc [oo 4 (.assign (.const (.bool true)))]∧RR zxb [oo 20 (oC .add 3 9 1),oo 9 (oM 20)]∧RI zi4 (.seq (zxf) (.seq (.cond (.tmp 10) (.skip) (.exit 0)) (.seq (.block 1 (.seq (zxe) (.seq (zxd) (.cond (.tmp 19) (.seq (zxc) (.ret)) (.skip))))) (zxb))))∧ze T 277 zi4 [0,7,8,9]∧RR zlc [oo 4 (.assign (.const (.bool false)))]∧zw T 277 [.tmp 4] false:=by refine⟨zz T ?_,zz T ?_,zz T ?_,zz T ?_,zz T ?_,zz T ?_,zz T ?_,zr T ?_,zo T ?_,zz T ?_,zy T (F:=f277) ?_ ?_ ?_⟩<;>kernel_rfl
@[go_sem]theorem fr278:xd T 278 false none false∧zf T 278 4:=by refine⟨⟨?_,?_,?_⟩,zh T (F:=f278) ?_ ?_⟩<;>kernel_rfl
def zxa:=nv 2 f278
def zw9:=nv 6 f278
theorem xco:xc T 278 8 (.seq (zxa) (.seq (zw9) (.ret))):=zk T (F:=f278) (by kernel_rfl) (by kernel_rfl) (by kernel_rfl)
@[go_sem↓]theorem run278:RR zxa [oo 4 (.assign (.const (.bool false)))]∧RR zw9 [oo 5 (oM 1),oo 6 (o1 132 5 35),oo 7 (oC .eql 3 6 0),oo 4 (oG 7)]∧zw T 278 [.tmp 4] false:=by refine⟨zz T ?_,zz T ?_,zy T (F:=f278) ?_ ?_ ?_⟩<;>kernel_rfl
@[go_sem]theorem fr279:xd T 279 false none false∧zf T 279 4:=by refine⟨⟨?_,?_,?_⟩,zh T (F:=f279) ?_ ?_⟩<;>kernel_rfl
def zw8:=nv 2 f279
def zw7:=nv 6 f279
theorem xcn:xc T 279 12 (.seq (zw8) (.seq (zw7) (.ret))):=zk T (F:=f279) (by kernel_rfl) (by kernel_rfl) (by kernel_rfl)
@[go_sem↓]theorem run279:RR zw8 [oo 4 (.assign (.const (.bool false)))]∧RD zw7 279 [oo 5 (oM 1),oo 6 (.indexAddr 35 (.tmp 5) (.const (.int .i64 0))),oo 7 (oL 3 6),oo 8 (oM 0),oo 9 (.indexAddr 35 (.tmp 8) (.const (.int .i64 0))),oo 10 (oL 3 9),oo 11 (oB .lss 3 7 10),oo 4 (oG 11)] [(0,3),(1,3),(2,3),(0,4),(1,4),(2,4),(0,5),(1,5),(2,5)]∧zw T 279 [.tmp 4] false:=by refine⟨zz T ?_,xv T (id:=1) ?_ ?_,zy T (F:=f279) ?_ ?_ ?_⟩<;>kernel_rfl
@[go_sem]theorem fr280:xd T 280 false none false∧zf T 280 4:=by refine⟨⟨?_,?_,?_⟩,zh T (F:=f280) ?_ ?_⟩<;>kernel_rfl
def zw6:=nv 2 f280
def zw5:=nv 6 f280
theorem xcm:xc T 280 5 (.seq (zw6) (.seq (zw5) (.ret))):=zk T (F:=f280) (by kernel_rfl) (by kernel_rfl) (by kernel_rfl)
@[go_sem↓]theorem run280:RR zw6 [oo 4 (.assign (.const (.bool false)))]∧RR zw5 [oo 4 (.assign (.const (.bool true)))]∧zw T 280 [.tmp 4] false:=by refine⟨zz T ?_,zz T ?_,zy T (F:=f280) ?_ ?_ ?_⟩<;>kernel_rfl
@[go_sem]theorem fr4:xd T 4 false none false∧zf T 4 4:=by refine⟨⟨?_,?_,?_⟩,zh T (F:=f4) ?_ ?_⟩<;>kernel_rfl
def zv4:=nv 2 f4
def zv3:=nv 12 f4
def zvs:=nv 52 f4
def zvr:=nv 14 f4
def zvl:=nv 30 f4
def zvk:=nv 124 f4
def zvj:=nv 500 f4
def zvi:=nv 126 f4
def zvh:=nv 254 f4
def zvg:=nv 1020 f4
def zi1:=nv 4084 f4
def zv2:=nv 8168 f4
def zv1:=nv 130712 f4
def zv0:=nv 261426 f4
def zvz:=nv 522854 f4
def zvy:=nv 1045710 f4
def zvx:=nv 4182844 f4
def zvw:=nv 16731380 f4
def zvv:=nv 4182846 f4
def zvu:=nv 4182847 f4
def zvt:=nv 32679 f4
def r4_20:=nv 1022 f4
def r4_21:=nv 4092 f4
def r4_22:=nv 16372 f4
def r4_23:=nv 4094 f4
def r4_24:=nv 8190 f4
def r4_25:=nv 16382 f4
def r4_26:=nv 65532 f4
def r4_27:=nv 262132 f4
def r4_28:=nv 65534 f4
def r4_29:=nv 131070 f4
def r4_30:=nv 524284 f4
def r4_31:=nv 2097140 f4
def r4_32:=nv 524286 f4
def r4_33:=nv 2097148 f4
def zfw:=nv 8388596 f4
def zvq:=nv 16777192 f4
def zvp:=nv 268435096 f4
def zvo:=nv 536870194 f4
def zvn:=nv 1073740390 f4
def zvm:=nv 67108775 f4
def r4_39:=nv 4194300 f4
def r4_40:=nv 16777204 f4
def r4_41:=nv 4194302 f4
theorem ym1:xc T 4 286 (.seq (zv4) (.seq (.seq (zv3) (.cond (.tmp 34) (.seq (zvs) (.ret)) (.skip))) (.seq (zvr) (.seq (zvl) (.seq (.seq (zvk) (.cond (.tmp 64) (.seq (zvj) (.ret)) (.skip))) (.seq (zvi) (.seq (zvh) (.seq (.seq (zvg) (.block 0 (.loop zi1))) (.seq (r4_20) (.seq (.seq (r4_21) (.cond (.tmp 175) (.seq (r4_22) (.ret)) (.skip))) (.seq (r4_23) (.seq (r4_24) (.seq (r4_25) (.seq (.seq (r4_26) (.cond (.tmp 186) (.seq (r4_27) (.ret)) (.skip))) (.seq (r4_28) (.seq (r4_29) (.seq (.seq (r4_30) (.cond (.tmp 216) (.seq (r4_31) (.ret)) (.skip))) (.seq (r4_32) (.seq (.seq (r4_33) (.block 2 (.loop zfw))) (.seq (.seq (r4_39) (.cond (.tmp 234) (.seq (r4_40) (.ret)) (.skip))) (.seq (r4_41) (.ret)))))))))))))))))))))):=zk T (F:=f4) (by kernel_rfl) (by kernel_rfl) (by kernel_rfl)
@[go_sem↓]theorem run4:RR zv4 [oo 1 (.box 28 (.tmp 0)),oo 2 (.assign (.const (.bool false)))]∧RR zv3 [oo 28 (oL 28 1),oo 29 (o1 7 28 28),oo 30 (.unOp .not 4 (.tmp 29)),oo 31 (oM 30),of 32 (.call ⟨.value (.func 8),#[],#[]⟩) 31,of 33 (.unOp .not 4 (.tmp 32)) 31,oo 34 (.pick (.tmp 31) (.const (.bool true)) (.tmp 33))]∧RR zvs [oo 35 (.call ⟨.value (.func 8),#[],#[]⟩),oo 2 (oG 35)]∧RR zvr [oo 36 (oF 28 1 3),oo 37 (.indexAddr 25 (.tmp 36) (.const (.int .i64 0))),oo 38 (oL 24 37),oo 39 (.convert 24 3 (.tmp 38)),oo 40 (oC .rem 3 39 1001),oo 3 (oG 40)]∧RD zvl 4 [oo 42 (oF 28 1 0),oo 43 (oL 23 42),oo 44 (oL 28 1),oo 45 (.call ⟨.value (.func 20),#[.tmp 44,.const (.int .i64 1000)],#[28,3]⟩),oo 46 (oF 28 1 1),oo 47 (oL 3 46),oo 48 (.call ⟨.value (.func 19),#[.tmp 43,.tmp 45,.tmp 47],#[23,35,3]⟩),oo 49 (oS 65 48),oo 50 (o1 18 49 65),oo 41 (oM 50),oo 51 (oX 41 0),oo 52 (oX 41 1),oo 4 (oG 51),oo 5 (oG 52)] [(0,2),(1,2),(0,3),(1,3),(0,4),(1,4),(2,4),(3,4),(0,5),(1,5),(2,5),(3,5),(10,11),(11,12)]∧RR zvk [oo 53 (oM 5),oo 54 (oC .neq 39 53 0),oo 55 (oM 54),of 56 (oM 4) 55,of 57 (oN 56 35) 55,of 58 (oC .lss 3 57 1) 55,oo 59 (.pick (.tmp 55) (.const (.bool true)) (.tmp 58)),oo 60 (oM 59),of 61 (oM 4) 60,of 62 (oN 61 35) 60,of 63 (oC .gtr 3 62 801) 60,oo 64 (.pick (.tmp 60) (.const (.bool true)) (.tmp 63))]∧RR zvj [oo 2 (.assign (.const (.bool false)))]∧RR zvi [oo 6 on]∧RR zvh [oo 7 (.assign (.const (.bool true)))]∧RR zvg [oo 65 (oM 4),oo 66 (oN 65 35),oo 67 (.move (.const (.int .i64 0)))]∧RR zv2 [oo 68 (oB .lss 3 67 66)]∧RR zv1 [oo 69 (oM 67),oo 8 (oG 69)]∧RD zv0 4 [oo 71 (oF 28 1 0),oo 72 (oL 23 71),oo 73 (oL 28 1),oo 74 (oM 3),oo 75 (o2 20 73 74 28 3),oo 76 (oF 28 1 1),oo 77 (oL 3 76),oo 78 (.call ⟨.value (.func 19),#[.tmp 72,.tmp 75,.tmp 77],#[23,35,3]⟩),oo 79 (oS 65 78),oo 80 (oM 8),oo 81 (o2 21 79 80 65 3),oo 70 (oM 81),oo 82 (oX 70 0),oo 83 (oX 70 1),oo 9 (oG 82),oo 10 (oG 83)] [(0,2),(1,2),(0,3),(1,3),(2,3),(0,4),(1,4),(0,5),(1,5),(2,5),(3,5),(4,5),(0,6),(1,6),(2,6),(3,6),(4,6),(0,9),(1,9),(2,9),(3,9),(4,9),(5,9),(6,9),(7,9),(8,9),(12,13),(13,14)]∧RD zvz 4 [oo 85 (oL 28 1),oo 86 (oL 28 1),oo 87 (.call ⟨.value (.func 20),#[.tmp 86,.const (.int .i64 1000)],#[28,3]⟩),oo 88 (oM 8),oo 89 (.call ⟨.value (.func 22),#[.tmp 85,.tmp 87,.tmp 88],#[28,35,3]⟩),oo 84 (oM 89),oo 90 (oX 84 0),oo 91 (oX 84 1),oo 11 (oG 90),oo 12 (oG 91)] [(0,1),(0,2),(0,3),(1,3),(2,3),(6,7),(7,8)]∧RD zvy 4 [oo 93 (oL 28 1),oo 94 (oL 28 1),oo 95 (oM 3),oo 96 (o2 20 94 95 28 3),oo 97 (oM 8),oo 98 (.call ⟨.value (.func 22),#[.tmp 93,.tmp 96,.tmp 97],#[28,35,3]⟩),oo 92 (oM 98),oo 99 (oX 92 0),oo 100 (oX 92 1),oo 13 (oG 99),oo 14 (oG 100)] [(0,1),(0,2),(1,2),(0,3),(0,4),(1,4),(2,4),(3,4),(7,8),(8,9)]∧RR zvx [oo 101 (oM 10),oo 102 (oC .neq 39 101 0),oo 103 (oM 102),of 104 (oM 12) 103,of 105 (.unOp .not 4 (.tmp 104)) 103,oo 106 (.pick (.tmp 103) (.const (.bool true)) (.tmp 105)),oo 107 (oM 106),of 108 (oM 14) 107,of 109 (.unOp .not 4 (.tmp 108)) 107,oo 110 (.pick (.tmp 107) (.const (.bool true)) (.tmp 109)),oo 111 (oM 110),of 112 (oM 9) 111,of 113 (oC .lss 3 112 0) 111,oo 114 (.pick (.tmp 111) (.const (.bool true)) (.tmp 113)),oo 115 (oM 114),of 116 (oM 9) 115,of 117 (oM 4) 115,of 118 (oM 8) 115,of 119 (oI 35 117 118) 115,of 120 (oL 3 119) 115,of 121 (oB .gtr 3 116 120) 115,oo 122 (.pick (.tmp 115) (.const (.bool true)) (.tmp 121)),oo 123 (oM 122),of 124 (oM 11) 123,of 125 (oM 8) 123,of 126 (oM 4) 123,of 127 (oM 8) 123,of 128 (oI 35 126 127) 123,of 129 (oL 3 128) 123,of 130 (oB .mul 3 125 129) 123,of 131 (oB .neq 3 124 130) 123,oo 132 (.pick (.tmp 123) (.const (.bool true)) (.tmp 131)),oo 133 (oM 132),of 134 (oM 13) 133,of 135 (oM 8) 133,of 136 (oM 9) 133,of 137 (oB .mul 3 135 136) 133,of 138 (oB .neq 3 134 137) 133,oo 139 (.pick (.tmp 133) (.const (.bool true)) (.tmp 138))]∧RR zvw [oo 2 (.assign (.const (.bool false)))]∧RR zvv [oo 140 (oM 7),oo 141 (oM 140),ot 142 (oM 9) 141,ot 143 (oM 4) 141,ot 144 (oM 8) 141,ot 145 (oI 35 143 144) 141,ot 146 (oL 3 145) 141,ot 147 (oB .eql 3 142 146) 141,oo 148 (.pick (.tmp 141) (.tmp 147) (.const (.bool false))),oo 7 (oG 148)]∧RR zvu [oo 149 (oM 6),oo 150 (oM 9),oo 151 (oS 35 150),oo 152 (oA 149 151 35),oo 6 (oG 152)]∧RR zvt [oo 153 (oC .add 3 67 1),oo 67 (oM 153)]∧RI zi1 (.seq (zv2) (.seq (.cond (.tmp 68) (.skip) (.exit 0)) (.seq (.block 1 (.seq (zv1) (.seq (zv0) (.seq (zvz) (.seq (zvy) (.seq (.seq (zvx) (.cond (.tmp 139) (.seq (zvw) (.ret)) (.skip))) (.seq (zvv) (zvu)))))))) (zvt))))∧ze T 4 zi1 [1,3,4,6,7,66,67]∧RR r4_20 [oo 155 (.buildSlice 35 0 #[]),oo 156 (oM 4),oo 157 (oA 155 156 35),oo 158 (.buildSlice 35 0 #[]),oo 159 (oM 6),oo 160 (oA 158 159 35),oo 161 (o2 23 157 160 35 35),oo 154 (oM 161),oo 162 (oX 154 0),oo 163 (oX 154 1),oo 15 (oG 162),oo 16 (oG 163)]∧RR r4_21 [oo 164 (oM 16),oo 165 (oC .neq 39 164 0),oo 166 (oM 165),of 167 (oM 15) 166,of 168 (.binOp .eql 9 (.tmp 167) (.const (.string ⟨#[115,97,109,101]⟩)) 9) 166,of 169 (oM 7) 166,of 170 (oB .neq 4 168 169) 166,oo 171 (.pick (.tmp 166) (.const (.bool true)) (.tmp 170)),oo 172 (oM 171),of 173 (oM 15) 172,of 174 (.binOp .eql 9 (.tmp 173) (.const (.string ⟨#[109,111,114,101]⟩)) 9) 172,oo 175 (.pick (.tmp 172) (.const (.bool true)) (.tmp 174))]∧RR r4_22 [oo 2 (.assign (.const (.bool false)))]∧RR r4_23 [oo 176 (oL 28 1),oo 17 (.alloc 28),ow 28 17 176]∧RR r4_24 [oo 177 (oF 28 17 4),⟨none,.store 5 (.tmp 177) (.const (.int .u8 1)),none⟩,oo 178 (oF 28 17 5),⟨none,.store 5 (.tmp 178) (.const (.int .u8 0)),none⟩]∧RR r4_25 [oo 180 (oL 28 17),oo 181 (o1 9 180 28),oo 179 (oM 181),oo 182 (oX 179 0),oo 183 (oX 179 1),oo 184 (oX 179 2),oo 18 (.alloc 34),oo 19 (.alloc 36),ow 34 18 182,ow 36 19 183,oo 20 (oG 184)]∧RR r4_26 [oo 185 (oM 20),oo 186 (.unOp .not 4 (.tmp 185))]∧RR r4_27 [oo 2 (.assign (.const (.bool false)))]∧RR r4_28 [oo 188 (oL 34 18),oo 189 (o1 11 188 34),oo 190 (o1 12 189 44),oo 187 (oM 190),oo 191 (oX 187 0),oo 192 (oX 187 1),oo 21 (oG 191),oo 22 (oG 192)]∧RR r4_29 [oo 194 (oL 34 18),oo 195 (o1 11 194 34),oo 196 (o1 24 195 44),oo 193 (oM 196),oo 197 (oX 193 0),oo 198 (oX 193 1),oo 23 (oG 197),oo 24 (oG 198)]∧RR r4_30 [oo 199 (oM 22),oo 200 (oC .neq 39 199 0),oo 201 (oM 200),of 202 (oM 24) 201,of 203 (oC .neq 39 202 0) 201,oo 204 (.pick (.tmp 201) (.const (.bool true)) (.tmp 203)),oo 205 (oM 204),of 206 (oM 21) 205,of 207 (oN 206 31) 205,of 208 (oC .lss 3 207 1) 205,oo 209 (.pick (.tmp 205) (.const (.bool true)) (.tmp 208)),oo 210 (oM 209),of 211 (oM 21) 210,of 212 (.indexAddr 31 (.tmp 211) (.const (.int .i64 0))) 210,of 213 (oL 35 212) 210,of 214 (oN 213 35) 210,of 215 (oC .gtr 3 214 1) 210,oo 216 (.pick (.tmp 210) (.const (.bool true)) (.tmp 215))]∧RR r4_31 [oo 2 (.assign (.const (.bool false)))]∧RR r4_32 [oo 25 (oi (-1))]∧RR r4_33 [oo 217 (.indexAddr 36 (.tmp 19) (.const (.int .i64 0))),oo 218 (oL 35 217),oo 219 (oN 218 35),oo 220 (.move (.const (.int .i64 0)))]∧RR zvq [oo 221 (oB .lss 3 220 219)]∧RR zvp [oo 222 (oM 220),oo 223 (oI 35 218 220),oo 224 (oL 3 223),oo 26 (oG 222),oo 27 (oG 224)]∧RR zvo [oo 225 (oM 27),oo 226 (oC .gtr 3 225 0),oo 227 (oM 226),ot 228 (oM 25) 227,ot 229 (oC .lss 3 228 0) 227,oo 230 (.pick (.tmp 227) (.tmp 229) (.const (.bool false)))]∧RR zvn [oo 231 (oM 26),oo 25 (oG 231)]∧RR zvm [oo 232 (oC .add 3 220 1),oo 220 (oM 232)]∧RI zfw (.seq (zvq) (.seq (.cond (.tmp 221) (.skip) (.exit 2)) (.seq (.block 3 (.seq (zvp) (.seq (zvo) (.cond (.tmp 230) (zvn) (.skip))))) (zvm))))∧ze T 4 zfw [7,18,21,23,25,218,219,220]∧RR r4_39 [oo 233 (oM 25),oo 234 (oC .lss 3 233 0)]∧RR r4_40 [oo 235 (oM 21),oo 236 (oN 235 31),oo 237 (oC .eql 3 236 1),oo 238 (oM 237),ot 239 (oM 21) 238,ot 240 (.indexAddr 31 (.tmp 239) (.const (.int .i64 0))) 238,ot 241 (oL 35 240) 238,ot 242 (oN 241 35) 238,ot 243 (oC .eql 3 242 0) 238,oo 244 (.pick (.tmp 238) (.tmp 243) (.const (.bool false))),oo 245 (oM 244),ot 246 (oM 23) 245,ot 247 (oN 246 22) 245,ot 248 (oC .eql 3 247 0) 245,oo 249 (.pick (.tmp 245) (.tmp 248) (.const (.bool false))),oo 2 (oG 249)]∧RR r4_41 [oo 250 (oM 7),oo 251 (.unOp .not 4 (.tmp 250)),oo 252 (oM 251),ot 253 (oM 21) 252,ot 254 (oN 253 31) 252,ot 255 (oC .eql 3 254 1) 252,oo 256 (.pick (.tmp 252) (.tmp 255) (.const (.bool false))),oo 257 (oM 256),ot 258 (oM 21) 257,ot 259 (.indexAddr 31 (.tmp 258) (.const (.int .i64 0))) 257,ot 260 (oL 35 259) 257,ot 261 (.buildSlice 35 1 #[(0,.const (.int .i64 0))]) 257,ot 262 (o2 25 260 261 35 35) 257,oo 263 (.pick (.tmp 257) (.tmp 262) (.const (.bool false))),oo 264 (oM 263),ot 265 (oM 23) 264,ot 266 (oN 265 22) 264,ot 267 (oC .eql 3 266 1) 264,oo 268 (.pick (.tmp 264) (.tmp 267) (.const (.bool false))),oo 269 (oM 268),ot 270 (oM 23) 269,ot 271 (.indexAddr 22 (.tmp 270) (.const (.int .i64 0))) 269,ot 272 (oL 76 271) 269,ot 273 (oM 25) 269,ot 274 (.build 76 #[(0,.const (.int .i64 1)),(1,.tmp 273)]) 269,ot 275 (oB .eql 76 272 274) 269,oo 276 (.pick (.tmp 269) (.tmp 275) (.const (.bool false))),oo 277 (oM 276),ot 278 (oL 34 18) 277,ot 279 (o1 11 278 34) 277,ot 280 (.buildSlice 22 0 #[]) 277,ot 281 (oM 23) 277,ot 282 (oA 280 281 22) 277,ot 283 (.call ⟨.value (.func 26),#[.tmp 279,.const (.int .i64 1),.tmp 282],#[44,3,22]⟩) 277,ot 284 (oC .eql 39 283 0) 277,oo 285 (.pick (.tmp 277) (.tmp 284) (.const (.bool false))),oo 2 (oG 285)]∧zw T 4 [.tmp 2] false:=by refine⟨zz T ?_,zz T ?_,zz T ?_,zz T ?_,xv T (id:=4) ?_ ?_,zz T ?_,zz T ?_,zz T ?_,zz T ?_,zz T ?_,zz T ?_,zz T ?_,xv T (id:=12) ?_ ?_,xv T (id:=13) ?_ ?_,xv T (id:=14) ?_ ?_,zz T ?_,zz T ?_,zz T ?_,zz T ?_,zz T ?_,zr T ?_,zo T ?_,zz T ?_,zz T ?_,zz T ?_,zz T ?_,zz T ?_,zz T ?_,zz T ?_,zz T ?_,zz T ?_,zz T ?_,zz T ?_,zz T ?_,zz T ?_,zz T ?_,zz T ?_,zz T ?_,zz T ?_,zz T ?_,zz T ?_,zr T ?_,zo T ?_,zz T ?_,zz T ?_,zz T ?_,zy T (F:=f4) ?_ ?_ ?_⟩<;>kernel_rfl
end Go.Den.FaT
end
