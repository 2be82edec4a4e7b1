/- The ties: the program's text comes to the plain functions. Nothing is assumed. -/
import Derived.Test.YtkjnhmjfdfiklaaGreatDoorFza
import Derived.Test.YtkjnhmjfdfiklaaGreatDoorFwd
import Derived.Test.YtkjnhmjfdfiklaaGreatDoorProg
import Derived.Test.YtkjnhmjfdfiklaaGreatDoorPuFnClassb
import Derived.Test.YtkjnhmjfdfiklaaGreatDoorPuFnClassa
import Derived.Test.YtkjnhmjfdfiklaaGreatDoorChecked
noncomputable section
set_option linter.defProp false
set_option linter.unusedSectionVars false
set_option linter.unusedVariables false
set_option linter.unusedSimpArgs false
set_option maxRecDepth 100000
namespace Go.Fw
open Go.Proofs
def aZ:bj:=rV [
 (2,⟨false,.int .i64,[.int .i64 0],[],none,8⟩),
 (3,⟨false,.int .i64,[.int .i64 0],[],none,8⟩),
 (4,⟨false,.bool,[.bool false],[],none,1⟩),
 (5,⟨false,.int .u8,[.int .u8 0],[],none,1⟩),
 (6,⟨false,.int .u8,[.int .u8 0],[],none,1⟩),
 (7,⟨true,.pair (.int .i64) (.pair (.int .i64) (.pair (.bool) (.int .u8))),[.int .i64 0,.int .i64 0,.bool false,.int .u8 0],[(0,1,false),(1,1,false),(2,1,false),(3,1,false)],none,24⟩),
 (8,⟨true,.pair (.int .i64) (.pair (.int .i64) (.pair (.bool) (.int .u8))),[.int .i64 0,.int .i64 0,.bool false,.int .u8 0],[(0,1,false),(1,1,false),(2,1,false),(3,1,false)],none,24⟩),
 (9,⟨false,.str,[.str ByteArray.empty],[],none,16⟩),
 (10,⟨false,.str,[.str ByteArray.empty],[],none,16⟩),
 (11,⟨false,.str,[.str ByteArray.empty],[],none,16⟩),
 (12,⟨false,.int .u64,[.int .u64 0],[],none,8⟩),
 (13,⟨true,.pair (.str) (.int .u64),[.str ByteArray.empty,.int .u64 0],[(0,1,false),(1,1,false)],none,24⟩),
 (14,⟨true,.pair (.str) (.int .u64),[.str ByteArray.empty,.int .u64 0],[(0,1,false),(1,1,false)],none,24⟩),
 (20,⟨false,.err,[.err false],[],none,16⟩),
 (21,⟨false,.int .i32,[.int .i32 0],[],none,4⟩),
 (22,⟨false,.sl 3 (.int .i64),[.nil],[],some 3,24⟩),
 (23,⟨true,.pair (.int .i64) (.pair (.int .i64) (.sl 3 (.int .i64))),[.int .i64 0,.int .i64 0,.nil],[(0,1,false),(1,1,false),(2,1,false)],none,40⟩),
 (24,⟨true,.pair (.int .i64) (.pair (.int .i64) (.sl 3 (.int .i64))),[.int .i64 0,.int .i64 0,.nil],[(0,1,false),(1,1,false),(2,1,false)],none,40⟩),
 (27,⟨true,.pair (.int .i64) (.pair (.int .i64) (.sl 3 (.int .i64))),[.int .i64 0,.int .i64 0,.nil],[(0,1,false),(1,1,false),(2,1,false)],none,40⟩),
 (31,⟨false,.sl 27 (.pair (.int .i64) (.pair (.int .i64) (.sl 3 (.int .i64)))),[.nil],[],some 27,24⟩),
 (37,⟨false,.sl 5 (.int .u8),[.nil],[],some 5,24⟩),
 (52,⟨false,.sl 22 (.sl 3 (.int .i64)),[.nil],[],some 22,24⟩),
 (59,⟨false,.pair (.str) (.sl 0 .bool),[.undef],[],none,8⟩),
 (70,⟨false,.sl 9 (.str),[.nil],[],some 9,24⟩),
 (96,⟨false,.int .u64,[.int .u64 0],[],none,8⟩),
 (97,⟨true,.pair (.sl 5 (.int .u8)) (.pair (.int .i64) (.int .i64)),[.nil,.int .i64 0,.int .i64 0],[(0,1,false),(1,1,false),(2,1,false)],none,40⟩),
 (98,⟨true,.pair (.sl 5 (.int .u8)) (.pair (.int .i64) (.int .i64)),[.nil,.int .i64 0,.int .i64 0],[(0,1,false),(1,1,false),(2,1,false)],none,40⟩),
 (102,⟨false,.err,[.err false],[],none,16⟩),
 (103,⟨false,.err,[.err false],[],none,16⟩),
 (109,⟨false,.sl 4 (.bool),[.nil],[],some 4,24⟩),
 (122,⟨false,.int .i64,[.int .i64 0],[],none,8⟩),
 (130,⟨false,.int .u32,[.int .u32 0],[],none,4⟩),
 (132,⟨false,.int .u64,[.int .u64 0],[],none,8⟩),
 (150,⟨false,.int .u64,[.int .u64 0],[],none,8⟩),
 (159,⟨false,.int .i64,[.int .i64 0],[],none,8⟩),
 (179,⟨true,.pair (.str) (.pair (.str) (.err)),[.str ByteArray.empty,.str ByteArray.empty,.err false],[(0,1,false),(1,1,false),(2,1,false)],none,48⟩),
 (180,⟨true,.pair (.str) (.pair (.str) (.err)),[.str ByteArray.empty,.str ByteArray.empty,.err false],[(0,1,false),(1,1,false),(2,1,false)],none,48⟩),
 (189,⟨true,.pair (.int .u8) (.int .u8),[.int .u8 0,.int .u8 0],[(0,1,false),(1,1,false)],none,2⟩),
 (190,⟨true,.pair (.int .u8) (.int .u8),[.int .u8 0,.int .u8 0],[(0,1,false),(1,1,false)],none,2⟩),
 (196,⟨true,.str,[.str ByteArray.empty],[(0,1,false)],none,16⟩),
 (197,⟨true,.str,[.str ByteArray.empty],[(0,1,false)],none,16⟩),
 (209,⟨false,.int .u8,[.int .u8 0],[],none,1⟩),
 (210,⟨false,.int .u8,[.int .u8 0],[],none,1⟩),
 (212,⟨false,.int .i32,[.int .i32 0],[],none,4⟩),
 (213,⟨false,.int .i32,[.int .i32 0],[],none,4⟩)]
def a8:be Tryz.prog aZ:=be.of (by kernel_rfl)
def zk : List (String × IntKind × List Int) := [("internal/strconv.uint64pow10", .u64, Lib.pow10Tab)]
def EV:List (String×IntKind):=[]
def EW:List String:=[]
instance:Inv Tryz.prog:=Inv.tabs _ zk EV EW
theorem Pn (w : World) (h : Inv.I Tryz.prog w) : Lib.TabIs Tryz.prog w "internal/strconv.uint64pow10" .u64 Lib.pow10Tab := Inv.tab_mem (q := EV) (es := EW) ("internal/strconv.uint64pow10", .u64, Lib.pow10Tab) (List.mem_of_getElem? (i := 0) rfl) w h
end Go.Fw
namespace Go.Fw
variable {J : Type}
open Go.Proofs
def EX:ba:=⟨[⟨.sl 5 (.int .u8),false,false⟩],[⟨.bool,false,false⟩]⟩
def zl:aQ:=⟨EX,none,λX=>((),((kG.g X.1),()))⟩
def EY:Gm:=aY
def Po:ao Tryz.prog EY:=ao.nil
def Pp:ab:=⟨[],[],[],[],[]⟩
def Pq(a:List Int):St:=bu EX.ps (a,())
def Pr(a:Bool):St:=af [(2,xB a)] [] []
def Ps:ab:=⟨[2],[],[],[],[]⟩
def Pt:Nat->Option ab:=aA [(1000000,Ps)]
abbrev Pu{J:Type}(N n:Nat)(V:St)(l:ab)(K:KT J):Option J:=an EY aZ Pt N (aT 99 (a7 Tryz.f20) n) .n V (ay (some l) K)
def Pv N a (K:KT J):Pu N 1 (Pq a) Pp K =
 kG.Z0 N a (λb=>K .ret (Pr b)):=by kernel_rfl
def Pw(h:kG.Spec):aw Tryz.prog 20 zl :=
 bA Tryz.func20 a8 Po (λN X K=>Pv N X.1 K) (by kernel_rfl) λX hb hp=>by obtain⟨a,_⟩:=X;obtain⟨N,h⟩:=h a hb.1;exact⟨N,Eq.trans (by kernel_rfl) (h N (Nat.le_refl N))⟩
def Px:aw Tryz.prog 20 zl:=Pw kG.ok
def Py:dh:=⟨98,[(5,.int .u8)],.pair (.int .i64) (.int .i64)⟩
def EZ:List PT:=[⟨.sl 5 (.int .u8),false,false⟩]
def zm:jg:=⟨Py,EZ,none,λX=>(ci.g X.1)⟩
def E3:Gm:=aY
def Pz:ao Tryz.prog E3:=ao.nil
def PA:ab:=⟨[],[],[],[],[]⟩
def PB(u0:Value)(a:List Int):St:=mM 5 (.int .u8) (EZ.drop 1) u0 (a,())
def E4(u0:Value)(a:List Int):St:=af [(0,.c (.bor u0 5 (.int .u8) a))] [] []
def PC:ab:=⟨[0],[],[],[],[]⟩
def m9(u0:Value)(a:List Int)(b:Int):St:=af [(0,.c (.bor u0 5 (.int .u8) a)),(3,xi b)] [] []
def tV:ab:=⟨[0,3],[],[],[],[]⟩
def tW(u0:Value)(a:List Int)(b d:Int):St:=af [(0,.c (.bor u0 5 (.int .u8) a)),(3,xi b),(4,xi d)] [] []
def E5:ab:=⟨[0,3,4],[],[],[],[]⟩
def PD(u0:Value)(a:List Int)(b c:Int):St:=af [(2,xb 31)] [(31,(98,[.bor u0 5 (.int .u8) a,yi b,yi c]))] []
def PE:ab:=⟨[2],[31],[],[],[]⟩
def PF:Nat->Option ab:=aA [(0,tV),(1000000,PE)]
abbrev qU{J:Type}(N n:Nat)(V:St)(l:ab)(K:KT J):Option J:=an E3 aZ PF N (aT 99 (a7 Tryz.f54) n) .n V (ay (some l) K)
def PG N u0 a (K:KT J):qU N 2 (PB u0 a) PC K =
 ci.Z1 N a (λa=>K .nrm (E4 u0 a)):=by kernel_rfl
def PH N u0 a (K:KT J):qU N 5 (E4 u0 a) tV K =
 ci.Z3 N a (λa b=>K .nrm (m9 u0 a b)):=by kernel_rfl
def PI N u0 a b (K:KT J):qU N 19 (m9 u0 a b) E5 K =
 ci.Z6 N a b (λa b c=>K .nrm (tW u0 a b c)):=by kernel_rfl
def PJ N u0 a b c (K:KT J):qU N 75 (tW u0 a b c) E5 K =
 ci.Z9 N a b c (λa b c=>K .nrm (tW u0 a b c)) (λa b=>K (.exit 0) (m9 u0 a b)):=by kernel_rfl
def PK N u0 (K:KT J):=g8 K (ci.Z8L N (λa b=>K (.exit 0) (m9 u0 a b))) (λa b c k=>ci.Z9 N a b c k (λa b=>K (.exit 0) (m9 u0 a b))) (λF a b c=>PJ N u0 a b c _) (by kernel_rfl)
def PL N u0 a b c (K:KT J):=vL (tW u0 a b c) (PK N u0 (jK tV K) N a b c) (by kernel_rfl)
def PM N u0 a b c (K:KT J):=vB 0 tV K (ci.Z7 N a b c (λa b=>K .nrm (m9 u0 a b))) (PL N u0 a b c _) (by kernel_rfl)
def PN N u0 a b (K:KT J):=vQ (λk=>ci.Z6 N a b k) (PI N u0 a b _) (cF λa b c=>PM N u0 a b c K)
def PO N u0 a b (K:KT J):qU N 15 (m9 u0 a b) PA K =
 ci.Z10 N a b (λc d e=>K .ret (PD u0 c d e)):=by kernel_rfl
def PP N u0 a b (K:KT J):=vQ (λk=>ci.Z5 N a b k) (PN N u0 a b _) (cV λa b=>PO N u0 a b K)
def PQ N u0 a (K:KT J):=vQ (λk=>ci.Z3 N a k) (PH N u0 a _) (cV λa b=>PP N u0 a b K)
def PR N u0 a (K:KT J):=vQ (λk=>ci.Z1 N a k) (PG N u0 a _) (funext λa=>PQ N u0 a K)
def PS(h:ci.Spec):kW Tryz.prog 54 zm :=
 MU Tryz.func54 a8 Pz (λN u X K=>PR N u X.1 K) (by kernel_rfl) λu0 X hb2 hp=>by obtain⟨a,_⟩:=X;obtain⟨N,h⟩:=h [u0] a hb2.1;exact⟨N,Eq.trans (by kernel_rfl) (h N (Nat.le_refl N))⟩
def PU:kW Tryz.prog 54 zm:=PS ci.ok
def E6:dh:=⟨98,[(5,.int .u8)],.pair (.int .i64) (.int .i64)⟩
def E7:List PT:=[]
def PV:List PT:=[⟨.int .i64,false,false⟩]
def zn:ew:=⟨E6,E7,true,PV,(some λX=>aS.P X.1.1.1 X.1.2),λX=>((aS.g X.1.1.1 X.1.2).1,((),((aS.g X.1.1.1 X.1.2).2,())))⟩
def E8:Gm:=aY
def PW:ao Tryz.prog E8:=ao.nil
def PX:ab:=⟨[],[],[],[],[]⟩
def PY(u0:Value)(b0:List Int)(r0:Int×Int):St:=dO E6 E7 [u0] (((b0,()),r0),())
def PZ(u0:Value)(a:Int)(b:List Int)(c d:Int):St:=af [(2,xi a),(100000,xb 100000)] [(100000,(98,[.bor u0 5 (.int .u8) b,yi c,yi d]))] []
def P0:ab:=⟨[2,100000],[100000],[],[],[]⟩
def P1:Nat->Option ab:=aA [(1000000,P0)]
abbrev P2{J:Type}(N n:Nat)(V:St)(l:ab)(K:KT J):Option J:=an E8 aZ P1 N (aT 99 (a7 Tryz.f133) n) .n V (ay (some l) K)
def P3 N u0 b0 r0 (K:KT J):P2 N 1 (PY u0 b0 r0) PX K =
 aS.Z0 N b0 r0 (λa b c d=>K .ret (PZ u0 a b c d)):=by kernel_rfl
def P4(h:aS.Spec):dj Tryz.prog 133 zn :=
 jk Tryz.func133 a8 PW (λN u X K=>P3 N u X.1.1.1 X.1.2 K) (by kernel_rfl) λu0 X hb1 hb2 hp=>by obtain⟨⟨⟨b0,_⟩,r0⟩,_⟩:=X;obtain⟨N,h⟩:=h [u0] b0 r0 hb1.1 hp;exact⟨N,Eq.trans (by kernel_rfl) (h N (Nat.le_refl N))⟩
def P5:dj Tryz.prog 133 zn:=P4 aS.ok
def E9:dh:=⟨98,[(5,.int .u8)],.pair (.int .i64) (.int .i64)⟩
def Fa:List PT:=[⟨.int .i64,false,false⟩]
def P6:List PT:=[⟨.int .i64,false,false⟩]
def lB:ew:=⟨E9,Fa,true,P6,(some λX=>ah.P X.1.1.1 X.1.2 X.2.1),λX=>((ah.g X.1.1.1 X.1.2 X.2.1).1,((),((ah.g X.1.1.1 X.1.2 X.2.1).2,())))⟩
def Fb:Gm:=addV aY 133 zn
def P7:ao Tryz.prog Fb:=(ao.nil).addV P5 (by kernel_rfl)
def P8:ab:=⟨[],[],[],[],[]⟩
def P9(u0:Value)(b0:List Int)(r0:Int×Int)(a:Int):St:=dO E9 Fa [u0] (((b0,()),r0),(a,()))
def Qa(u0:Value)(a:Int)(b:List Int)(c d:Int):St:=af [(4,xi a),(100000,xb 100000)] [(100000,(98,[.bor u0 5 (.int .u8) b,yi c,yi d]))] []
def Qb:ab:=⟨[4,100000],[100000],[],[],[]⟩
def Qc:Nat->Option ab:=aA [(1000000,Qb)]
abbrev Qd{J:Type}(N n:Nat)(V:St)(l:ab)(K:KT J):Option J:=an Fb aZ Qc N (aT 99 (a7 Tryz.f96) n) .n V (ay (some l) K)
def Qe N u0 b0 r0 a (K:KT J):Qd N 1 (P9 u0 b0 r0 a) P8 K =
 ah.Z0 N b0 r0 a (λb c d e=>K .ret (Qa u0 b c d e)):=by kernel_rfl
def Qf(h:ah.Spec):dj Tryz.prog 96 lB :=
 jk Tryz.func96 a8 P7 (λN u X K=>Qe N u X.1.1.1 X.1.2 X.2.1 K) (by kernel_rfl) λu0 X hb1 hb2 hp=>by obtain⟨⟨⟨b0,_⟩,r0⟩,a,_⟩:=X;obtain⟨N,h⟩:=h [u0] b0 r0 a hb1.1 hp;exact⟨N,Eq.trans (by kernel_rfl) (h N (Nat.le_refl N))⟩
def oJ:dj Tryz.prog 96 lB:=Qf ah.ok
def Fc:dh:=⟨98,[(5,.int .u8)],.pair (.int .i64) (.int .i64)⟩
def Fd:List PT:=[⟨.int .i64,false,false⟩]
def Qg:List PT:=[⟨.bool,false,false⟩]
def tX:ew:=⟨Fc,Fd,true,Qg,(some λX=>bX.P X.1.1.1 X.1.2 X.2.1),λX=>((bX.g X.1.1.1 X.1.2 X.2.1).1,((),((bX.g X.1.1.1 X.1.2 X.2.1).2,())))⟩
def Fe:Gm:=addV aY 96 lB
def Qh:ao Tryz.prog Fe:=(ao.nil).addV oJ (by kernel_rfl)
def Qi:ab:=⟨[],[],[],[],[]⟩
def Qj(u0:Value)(b0:List Int)(r0:Int×Int)(a:Int):St:=dO Fc Fd [u0] (((b0,()),r0),(a,()))
def Qk(u0:Value)(a:Bool)(b:List Int)(c d:Int):St:=af [(4,xB a),(100000,xb 100000)] [(100000,(98,[.bor u0 5 (.int .u8) b,yi c,yi d]))] []
def Ql:ab:=⟨[4,100000],[100000],[],[],[]⟩
def Qm:Nat->Option ab:=aA [(1000000,Ql)]
abbrev Qn{J:Type}(N n:Nat)(V:St)(l:ab)(K:KT J):Option J:=an Fe aZ Qm N (aT 99 (a7 Tryz.f59) n) .n V (ay (some l) K)
def Qo N u0 b0 r0 a (K:KT J):Qn N 1 (Qj u0 b0 r0 a) Qi K =
 bX.Z0 N b0 r0 a (λb c d e=>K .ret (Qk u0 b c d e)):=by kernel_rfl
def Qp(h:bX.Spec):dj Tryz.prog 59 tX :=
 jk Tryz.func59 a8 Qh (λN u X K=>Qo N u X.1.1.1 X.1.2 X.2.1 K) (by kernel_rfl) λu0 X hb1 hb2 hp=>by obtain⟨⟨⟨b0,_⟩,r0⟩,a,_⟩:=X;obtain⟨N,h⟩:=h [u0] b0 r0 a hb1.1 hp;exact⟨N,Eq.trans (by kernel_rfl) (h N (Nat.le_refl N))⟩
def Ff:dj Tryz.prog 59 tX:=Qp bX.ok
def Fg:ba:=⟨[⟨.int .i64,false,false⟩],[⟨.pair (.int .i64) (.pair (.int .i64) (.sl 3 (.int .i64))),true,false⟩]⟩
def tY:aQ:=⟨Fg,(some λX=>az.P X.1),λX=>((),((az.g X.1),()))⟩
def Fh:Gm:=aY
def Qq:ao Tryz.prog Fh:=ao.nil
def Qr:ab:=⟨[],[],[],[],[]⟩
def Qs(a:Int):St:=bu Fg.ps (a,())
def Qt(a:LI)(b c:Int):St:=af [(2,xb 2)] [(2,(27,[yi b,yi c,.own 20000130]))] [(20000130,(⟨3,.int .i64,a,true,false⟩:ae))]
def Qu:ab:=⟨[2],[2],[],[],[(⟨true,2,2⟩,20000130)]⟩
def Qv:Nat->Option ab:=aA [(1000000,Qu)]
abbrev Qw{J:Type}(N n:Nat)(V:St)(l:ab)(K:KT J):Option J:=an Fh aZ Qv N (aT 99 (a7 Tryz.f134) n) .n V (ay (some l) K)
def Qx N a (K:KT J):Qw N 1 (Qs a) Qr K =
 az.Z0 N a (λb c d=>K .ret (Qt b c d)):=by kernel_rfl
def Qy(h:az.Spec):aw Tryz.prog 134 tY :=
 bA Tryz.func134 a8 Qq (λN X K=>Qx N X.1 K) (by kernel_rfl) λX hb hp=>by obtain⟨a,_⟩:=X;obtain⟨N,h⟩:=h a hp;exact⟨N,Eq.trans (by kernel_rfl) (h N (Nat.le_refl N))⟩
def Fi:aw Tryz.prog 134 tY:=Qy az.ok
def Fj:dh:=⟨98,[(5,.int .u8)],.pair (.int .i64) (.int .i64)⟩
def Fk:List PT:=[⟨.pair (.int .i64) (.pair (.int .i64) (.sl 3 (.int .i64))),true,true⟩,⟨.int .i64,false,false⟩,⟨.int .i64,false,false⟩,⟨.int .i64,false,false⟩,⟨.int .i64,false,false⟩]
def Qz:List PT:=[]
def tZ:ew:=⟨Fj,Fk,true,Qz,(some λX=>aG.P X.1.1.1 X.1.2 X.2.1 X.2.2.1 X.2.2.2.1 X.2.2.2.2.1 X.2.2.2.2.2.1),λX=>((aG.g X.1.1.1 X.1.2 X.2.1 X.2.2.1 X.2.2.2.1 X.2.2.2.2.1 X.2.2.2.2.2.1).1,((aG.g X.1.1.1 X.1.2 X.2.1 X.2.2.1 X.2.2.2.1 X.2.2.2.2.1 X.2.2.2.2.2.1).2,()))⟩
def Fl:Gm:=addV aY 59 tX
def QA:ao Tryz.prog Fl:=(ao.nil).addV Ff (by kernel_rfl)
def QB(u0:Value)(b0:List Int)(r0:Int×Int)(a:MT)(b c d e:Int):St:=dO Fj Fk [u0] (((b0,()),r0),(a,(b,(c,(d,(e,()))))))
def QC(u0:Value)(a:LI)(b c:Int)(d:List Int)(e f:Int):St:=af [(100000,xb 100000),(100001,.agg [yi b,yi c,.own 7400066])] [(100000,(98,[.bor u0 5 (.int .u8) d,yi e,yi f]))] [(7400066,(⟨3,.int .i64,a,true,false⟩:ae))]
def QD:ab:=⟨[100000,100001],[100000],[],[],[(⟨false,100001,2⟩,7400066)]⟩
def QE:Nat->Option ab:=aA []
abbrev QF{J:Type}(N n:Nat)(V:St)(l:ab)(K:KT J):Option J:=an Fl aZ QE N (aT 99 (a7 Tryz.f135) n) .n V (ay (some l) K)
def QG N u0 b0 r0 a b c d e (K:KT J):QF N 1 (QB u0 b0 r0 a b c d e) QD K =
 aG.Z0 N b0 r0 a b c d e (λf g h i j l=>K .nrm (QC u0 f g h i j l)):=by kernel_rfl
def QH(h:aG.Spec):dj Tryz.prog 135 tZ :=
 jk Tryz.func135 a8 QA (λN u X K=>QG N u X.1.1.1 X.1.2 X.2.1 X.2.2.1 X.2.2.2.1 X.2.2.2.2.1 X.2.2.2.2.2.1 K) (by kernel_rfl) λu0 X hb1 hb2 hp=>by obtain⟨⟨⟨b0,_⟩,r0⟩,a,b,c,d,e,_⟩:=X;obtain⟨N,h⟩:=h [u0] b0 r0 a b c d e hb1.1 hb2.1 hp;exact⟨N,Eq.trans (by kernel_rfl) (h N (Nat.le_refl N))⟩
def Fm:dj Tryz.prog 135 tZ:=QH aG.ok
def Fn:dh:=⟨98,[(5,.int .u8)],.pair (.int .i64) (.int .i64)⟩
def Fo:List PT:=[]
def QI:List PT:=[⟨.pair (.int .i64) (.pair (.int .i64) (.sl 3 (.int .i64))),true,false⟩]
def zo:ew:=⟨Fn,Fo,true,QI,(some λX=>aX.P X.1.1.1 X.1.2),λX=>((aX.g X.1.1.1 X.1.2).1,((),((aX.g X.1.1.1 X.1.2).2,())))⟩
def Fp:Gm:=addV (aI (addV aY 96 lB) 134 tY) 135 tZ
def QJ:ao Tryz.prog Fp:=(((ao.nil).addV oJ (by kernel_rfl)).add Fi (by kernel_rfl)).addV Fm (by kernel_rfl)
def QK:ab:=⟨[],[],[],[],[]⟩
def QL(u0:Value)(b0:List Int)(r0:Int×Int):St:=dO Fn Fo [u0] (((b0,()),r0),())
def t6(u0:Value)(a:List Int)(b c d e:Int):St:=af [(0,xb 100000),(2,xb 2),(100000,xb 100000)] [(100000,(98,[.bor u0 5 (.int .u8) a,yi b,yi c])),(2,(27,[yi d,yi e,.nil]))] []
def Fq:ab:=⟨[0,2,100000],[100000,2],[],[],[]⟩
def Fr(u0:Value)(a:LI)(b:List Int)(c d e f g h:Int):St:=af [(0,xb 100000),(2,xb 2),(5,xb 5),(100000,xb 100000)] [(100000,(98,[.bor u0 5 (.int .u8) b,yi c,yi d])),(2,(27,[yi e,yi f,.nil])),(5,(27,[yi g,yi h,.own 20000322]))] [(20000322,(⟨3,.int .i64,a,true,false⟩:ae))]
def QM:ab:=⟨[0,2,5,100000],[100000,2,5],[],[],[(⟨true,5,2⟩,20000322)]⟩
def iI(u0:Value)(a:LI)(b:Int)(c:List Int)(d e f g h i:Int):St:=af [(0,xb 100000),(2,xb 2),(5,xb 5),(6,xi b),(100000,xb 100000)] [(100000,(98,[.bor u0 5 (.int .u8) c,yi d,yi e])),(2,(27,[yi f,yi g,.nil])),(5,(27,[yi h,yi i,.own 20000322]))] [(20000322,(⟨3,.int .i64,a,true,false⟩:ae))]
def lC:ab:=⟨[0,2,5,6,100000],[100000,2,5],[],[],[(⟨true,5,2⟩,20000322)]⟩
def t7(u0:Value)(a:LI)(b c:Int)(d:List Int)(e f g h i j:Int):St:=af [(0,xb 100000),(2,xb 2),(5,xb 5),(6,xi b),(7,xi c),(100000,xb 100000)] [(100000,(98,[.bor u0 5 (.int .u8) d,yi e,yi f])),(2,(27,[yi g,yi h,.nil])),(5,(27,[yi i,yi j,.own 20000322]))] [(20000322,(⟨3,.int .i64,a,true,false⟩:ae))]
def Fs:ab:=⟨[0,2,5,6,7,100000],[100000,2,5],[],[],[(⟨true,5,2⟩,20000322)]⟩
def oK(u0:Value)(a:LI)(b c d e:Int)(f:List Int)(g h:Int):St:=af [(2,xb 2),(5,xb 5),(100000,xb 100000)] [(2,(27,[yi b,yi c,.nil])),(5,(27,[yi d,yi e,.own 20000322])),(100000,(98,[.bor u0 5 (.int .u8) f,yi g,yi h]))] [(20000322,(⟨3,.int .i64,a,true,false⟩:ae))]
def zp:ab:=⟨[2,5,100000],[2,5,100000],[],[],[(⟨true,5,2⟩,20000322)]⟩
def zq(u0:Value)(a:LI)(b c:Int)(d:List Int)(e f:Int):St:=af [(2,xb 2),(100000,xb 100000)] [(2,(27,[yi b,yi c,.own 20000130])),(100000,(98,[.bor u0 5 (.int .u8) d,yi e,yi f]))] [(20000130,(⟨3,.int .i64,a,true,false⟩:ae))]
def QN:ab:=⟨[2,100000],[2,100000],[],[],[(⟨true,2,2⟩,20000130)]⟩
def QO:Nat->Option ab:=aA [(3,lC),(2,lC),(1,zp),(1000000,QN)]
abbrev kw{J:Type}(N n:Nat)(V:St)(l:ab)(K:KT J):Option J:=an Fp aZ QO N (aT 99 (a7 Tryz.f97) n) .n V (ay (some l) K)
def QP N u0 b0 r0 (K:KT J):kw N 2 (QL u0 b0 r0) Fq K =
 aX.Z1 N b0 r0 (λa b c d e=>K .nrm (t6 u0 a b c d e)):=by kernel_rfl
def QQ N u0 a b c d e (K:KT J):kw N 5 (t6 u0 a b c d e) Fq K =
 aX.Z3 N a b c d e (λa b c d e=>K .nrm (t6 u0 a b c d e)) (λf d e a b c=>K .ret (zq u0 f d e a b c)):=by kernel_rfl
def QR N u0 a b c d e (K:KT J):kw N 11 (t6 u0 a b c d e) QM K =
 aX.Z5 N a b c d e (λf a b c d e g h=>K .nrm (Fr u0 f a b c d e g h)):=by kernel_rfl
def QS N u0 a b c d e f g h (K:KT J):kw N 39 (Fr u0 a b c d e f g h) lC K =
 aX.Z8 N a b c d e f g h (λa i b c d e f g h=>K .nrm (iI u0 a i b c d e f g h)):=by kernel_rfl
def QT N u0 a i b c d e f g h (K:KT J):kw N 279 (iI u0 a i b c d e f g h) lC K =
 aX.Z12 N a i b c d e f g h (λa i b c d e f g h=>K .nrm (iI u0 a i b c d e f g h)) (λa e f g h b c d=>K (.exit 1) (oK u0 a e f g h b c d)):=by kernel_rfl
def QU N u0 a b c d e f g h i (K:KT J):kw N 2199 (iI u0 a b c d e f g h i) Fs K =
 aX.Z16 N a b c d e f g h i (λa b j c d e f g h i=>K .nrm (t7 u0 a b j c d e f g h i)):=by kernel_rfl
def QV N u0 a b j c d e f g h i (K:KT J):kw N 9367 (t7 u0 a b j c d e f g h i) Fs K =
 aX.Z19 N a b j c d e f g h i (λa b j c d e f g h i=>K .nrm (t7 u0 a b j c d e f g h i)) (λa b c d e f g h i=>K (.exit 3) (iI u0 a b c d e f g h i)):=by kernel_rfl
def QW N u0 (K:KT J):=jC K (aX.Z18L N (λa b c d e f g h i=>K (.exit 3) (iI u0 a b c d e f g h i))) (λa b j c d e f g h i k=>aX.Z19 N a b j c d e f g h i k (λa b c d e f g h i=>K (.exit 3) (iI u0 a b c d e f g h i))) (λF a b j c d e f g h i=>QV N u0 a b j c d e f g h i _) (by kernel_rfl)
def QX N u0 a b c d e f g h i j (K:KT J):=vL (t7 u0 a b c d e f g h i j) (QW N u0 (jK lC K) N a b c d e f g h i j) (by kernel_rfl)
def QY N u0 a b j c d e f g h i (K:KT J):=vB 3 lC K (aX.Z17 N a b j c d e f g h i (λa b c d e f g h i=>K .nrm (iI u0 a b c d e f g h i))) (QX N u0 a b j c d e f g h i _) (by kernel_rfl)
def QZ N u0 a b c d e f g h i (K:KT J):=vQ (λk=>aX.Z16 N a b c d e f g h i k) (QU N u0 a b c d e f g h i _) (dA λa b j c d e f g h i=>QY N u0 a b j c d e f g h i K)
def Q0 N u0 a b c d e f g h i (K:KT J):=vB 2 lC K (aX.Z14 N a b c d e f g h i (λa b c d e f g h i=>K .nrm (iI u0 a b c d e f g h i))) (QZ N u0 a b c d e f g h i _) (by kernel_rfl)
def Q1 N u0 a b c d e f g h i (K:KT J):kw N 919 (iI u0 a b c d e f g h i) lC K =
 aX.Z20 N a b c d e f g h i (λa b c d e f g h i=>K .nrm (iI u0 a b c d e f g h i)):=by kernel_rfl
def Q2 N u0 a b c d e f g h i (K:KT J):=vQ (λk=>aX.Z14 N a b c d e f g h i k) (Q0 N u0 a b c d e f g h i _) (dT λa b c d e f g h i=>Q1 N u0 a b c d e f g h i K)
def Q3 N u0 a i b c d e f g h (K:KT J):=vQ (λk=>aX.Z12 N a i b c d e f g h k (λa e f g h b c d=>K (.exit 1) (oK u0 a e f g h b c d))) (QT N u0 a i b c d e f g h _) (dT λa i b c d e f g h=>Q2 N u0 a i b c d e f g h K)
def Q4 N u0 (K:KT J):=tg K (aX.Z10L N (λa b c d e f g h=>K (.exit 1) (oK u0 a b c d e f g h))) (λa i f g h b c d e k=>aX.Z11 N a i f g h b c d e k (λa b c d e f g h=>K (.exit 1) (oK u0 a b c d e f g h))) (λF a i f g h b c d e=>Q3 N u0 a i f g h b c d e _) (by kernel_rfl)
def Q5 N u0 a b c d e f g h i (K:KT J):=vL (iI u0 a b c d e f g h i) (Q4 N u0 (jK zp K) N a b c d e f g h i) (by kernel_rfl)
def Q6 N u0 a i b c d e f g h (K:KT J):=vB 1 zp K (aX.Z9 N a i b c d e f g h (λa e f g h b c d=>K .nrm (oK u0 a e f g h b c d))) (Q5 N u0 a i b c d e f g h _) (by kernel_rfl)
def Q7 N u0 a b c d e f g h (K:KT J):=vQ (λk=>aX.Z8 N a b c d e f g h k) (QS N u0 a b c d e f g h _) (dT λa i b c d e f g h=>Q6 N u0 a i b c d e f g h K)
def Q8 N u0 f a b g h c d e (K:KT J):kw N 31 (oK u0 f a b g h c d e) QK K =
 aX.Z21 N f a b g h c d e (λi a b c d e=>K .ret (zq u0 i a b c d e)):=by kernel_rfl
def Q9 N u0 a b c d e f g h (K:KT J):=vQ (λk=>aX.Z7 N a b c d e f g h k) (Q7 N u0 a b c d e f g h _) (du λa e f g h b c d=>Q8 N u0 a e f g h b c d K)
def Ra N u0 a b c d e (K:KT J):=vQ (λk=>aX.Z5 N a b c d e k) (QR N u0 a b c d e _) (du λf a b c d e g h=>Q9 N u0 f a b c d e g h K)
def Rb N u0 a b c d e (K:KT J):=vQ (λk=>aX.Z3 N a b c d e k (λf d e a b c=>K .ret (zq u0 f d e a b c))) (QQ N u0 a b c d e _) (cn λa b c d e=>Ra N u0 a b c d e K)
def Rc N u0 b0 r0 (K:KT J):=vQ (λk=>aX.Z1 N b0 r0 k) (QP N u0 b0 r0 _) (cn λa b c d e=>Rb N u0 a b c d e K)
def Re(h:aX.Spec):dj Tryz.prog 97 zo :=
 jk Tryz.func97 a8 QJ (λN u X K=>Rc N u X.1.1.1 X.1.2 K) (by kernel_rfl) λu0 X hb1 hb2 hp=>by obtain⟨⟨⟨b0,_⟩,r0⟩,_⟩:=X;obtain⟨N,h⟩:=h [u0] b0 r0 hb1.1 hp;exact⟨N,Eq.trans (by kernel_rfl) (h N (Nat.le_refl N))⟩
def Rg:dj Tryz.prog 97 zo:=Re aX.ok
def Ft:ba:=⟨[⟨.int .i64,false,false⟩],[⟨.str,false,false⟩]⟩
def zr:aQ:=⟨Ft,(some λX=>bV.P X.1),λX=>((),((bV.g X.1),()))⟩
def Fu:Gm:=aY
def Rh:ao Tryz.prog Fu:=ao.nil
def Ri:ab:=⟨[],[],[],[],[]⟩
def Rj(a:Int):St:=bu Ft.ps (a,())
def Fv(a:Int):St:=af [(0,xi a)] [] []
def Rk:ab:=⟨[0],[],[],[],[]⟩
def na(a:List Int)(b:Int):St:=af [(0,xi b),(3,xo 1000192)] [] [(1000192,(⟨5,.int .u8,a,true,false⟩:ae))]
def t8:ab:=⟨[0,3],[],[],[],[(⟨false,3,0⟩,1000192)]⟩
def ua(a:List Int)(b c:Int):St:=af [(0,xi b),(3,xo 1000192),(4,xi c)] [] [(1000192,(⟨5,.int .u8,a,true,false⟩:ae))]
def Fx:ab:=⟨[0,3,4],[],[],[],[(⟨false,3,0⟩,1000192)]⟩
def Fy(a b:List Int)(c:Int):St:=af [(0,xi c),(3,xo 1000192),(6,xo 1000384)] [] [(1000192,(⟨5,.int .u8,a,true,false⟩:ae)),(1000384,(⟨5,.int .u8,b,true,false⟩:ae))]
def Rl:ab:=⟨[0,3,6],[],[],[],[(⟨false,3,0⟩,1000192),(⟨false,6,0⟩,1000384)]⟩
def Fz(a b:List Int):St:=af [(3,xo 1000192),(6,xo 1000384)] [] [(1000192,(⟨5,.int .u8,a,true,false⟩:ae)),(1000384,(⟨5,.int .u8,b,true,false⟩:ae))]
def Rm:ab:=⟨[3,6],[],[],[],[(⟨false,3,0⟩,1000192),(⟨false,6,0⟩,1000384)]⟩
def ub(a b:List Int)(c:Int):St:=af [(3,xo 1000192),(6,xo 1000384),(7,xi c)] [] [(1000192,(⟨5,.int .u8,a,true,false⟩:ae)),(1000384,(⟨5,.int .u8,b,true,false⟩:ae))]
def FA:ab:=⟨[3,6,7],[],[],[],[(⟨false,3,0⟩,1000192),(⟨false,6,0⟩,1000384)]⟩
def qV(a:List Int):St:=af [(6,xo 1000384)] [] [(1000384,(⟨5,.int .u8,a,true,false⟩:ae))]
def zt:ab:=⟨[6],[],[],[],[(⟨false,6,0⟩,1000384)]⟩
def Rn(a:ByteArray):St:=af [(2,.c (.str a))] [] []
def Ro:ab:=⟨[2],[],[],[],[]⟩
def Rp:Nat->Option ab:=aA [(0,t8),(2,zt),(1000000,Ro)]
abbrev ky{J:Type}(N n:Nat)(V:St)(l:ab)(K:KT J):Option J:=an Fu aZ Rp N (aT 99 (a7 Tryz.f108) n) .n V (ay (some l) K)
def Rq N a (K:KT J):ky N 2 (Rj a) Rk K =
 bV.Z1 N a (λa=>K .nrm (Fv a)):=by kernel_rfl
def Rr N a (K:KT J):ky N 5 (Fv a) t8 K =
 bV.Z3 N a (λb a=>K .nrm (na b a)):=by kernel_rfl
def Rs N a b (K:KT J):ky N 11 (na a b) Fx K =
 bV.Z5 N a b (λa b c=>K .nrm (ua a b c)):=by kernel_rfl
def Rt N a b c (K:KT J):ky N 71 (ua a b c) Fx K =
 bV.Z9 N a b c (λa b c=>K .nrm (ua a b c)) (λa b=>K (.exit 0) (na a b)):=by kernel_rfl
def Ru N (K:KT J):=g8 K (bV.Z8L N (λa b=>K (.exit 0) (na a b))) (λa b c k=>bV.Z9 N a b c k (λa b=>K (.exit 0) (na a b))) (λF a b c=>Rt N a b c _) (by kernel_rfl)
def Rv N a b c (K:KT J):=vL (ua a b c) (Ru N (jK t8 K) N a b c) (by kernel_rfl)
def Rw N a b c (K:KT J):=vB 0 t8 K (bV.Z7 N a b c (λa b=>K .nrm (na a b))) (Rv N a b c _) (by kernel_rfl)
def Rx N a b (K:KT J):ky N 47 (na a b) Rl K =
 bV.Z11 N a b (λa c b=>K .nrm (Fy a c b)):=by kernel_rfl
def Ry N a b c (K:KT J):ky N 95 (Fy a b c) Rm K =
 bV.Z13 N a b c (λa b=>K .nrm (Fz a b)):=by kernel_rfl
def Rz N a b (K:KT J):ky N 319 (Fz a b) FA K =
 bV.Z16 N a b (λa b c=>K .nrm (ub a b c)):=by kernel_rfl
def RA N b a c (K:KT J):ky N 1215 (ub b a c) FA K =
 bV.Z19 N b a c (λb a c=>K .nrm (ub b a c)) (λa=>K (.exit 2) (qV a)):=by kernel_rfl
def RB N (K:KT J):=g8 K (bV.Z18L N (λa=>K (.exit 2) (qV a))) (λb a c k=>bV.Z19 N b a c k (λa=>K (.exit 2) (qV a))) (λF b a c=>RA N b a c _) (by kernel_rfl)
def RC N a b c (K:KT J):=vL (ub a b c) (RB N (jK zt K) N a b c) (by kernel_rfl)
def RD N b a c (K:KT J):=vB 2 zt K (bV.Z17 N b a c (λa=>K .nrm (qV a))) (RC N b a c _) (by kernel_rfl)
def RE N a b (K:KT J):=vQ (λk=>bV.Z16 N a b k) (Rz N a b _) (cF λa b c=>RD N a b c K)
def RF N a (K:KT J):ky N 255 (qV a) Ri K =
 bV.Z20 N a (λb=>K .ret (Rn b)):=by kernel_rfl
def RG N b a (K:KT J):=vQ (λk=>bV.Z15 N b a k) (RE N b a _) (funext λa=>RF N a K)
def RH N a b c (K:KT J):=vQ (λk=>bV.Z13 N a b c k) (Ry N a b c _) (cV λa b=>RG N a b K)
def RI N a b (K:KT J):=vQ (λk=>bV.Z11 N a b k) (Rx N a b _) (cF λa c b=>RH N a c b K)
def RJ N a b c (K:KT J):=vQ (λk=>bV.Z7 N a b c k) (Rw N a b c _) (cV λa b=>RI N a b K)
def RK N a b (K:KT J):=vQ (λk=>bV.Z5 N a b k) (Rs N a b _) (cF λa b c=>RJ N a b c K)
def RL N a (K:KT J):=vQ (λk=>bV.Z3 N a k) (Rr N a _) (cV λb a=>RK N b a K)
def RM N a (K:KT J):=vQ (λk=>bV.Z1 N a k) (Rq N a _) (funext λa=>RL N a K)
def RN(h:bV.Spec):aw Tryz.prog 108 zr :=
 bA Tryz.func108 a8 Rh (λN X K=>RM N X.1 K) (by kernel_rfl) λX hb hp=>by obtain⟨a,_⟩:=X;obtain⟨N,h⟩:=h a hp;exact⟨N,Eq.trans (by kernel_rfl) (h N (Nat.le_refl N))⟩
def RO:aw Tryz.prog 108 zr:=RN bV.ok
def FB:dh:=⟨98,[(5,.int .u8)],.pair (.int .i64) (.int .i64)⟩
def FC:List PT:=[⟨.int .i64,false,false⟩]
def RP:List PT:=[⟨.pair (.int .i64) (.pair (.int .i64) (.sl 3 (.int .i64))),true,false⟩,⟨.str,false,false⟩]
def zu:ew:=⟨FB,FC,true,RP,(some λX=>spec_dTree.P X.1.1.1 X.1.2 X.2.1),λX=>((spec_dTree.g X.1.1.1 X.1.2 X.2.1).1,((),((spec_dTree.g X.1.1.1 X.1.2 X.2.1).2.1,((spec_dTree.g X.1.1.1 X.1.2 X.2.1).2.2,()))))⟩
def FD:Gm:=addV (aI (aI (addV aY 96 lB) 108 zr) 134 tY) 135 tZ
def RQ:ao Tryz.prog FD:=((((ao.nil).addV oJ (by kernel_rfl)).add RO (by kernel_rfl)).add Fi (by kernel_rfl)).addV Fm (by kernel_rfl)
def RR:ab:=⟨[],[],[],[],[]⟩
def RS(u0:Value)(b0:List Int)(r0:Int×Int)(a:Int):St:=dO FB FC [u0] (((b0,()),r0),(a,()))
def FE(u0:Value)(a:Int)(b:List Int)(c d e f:Int):St:=af [(0,xb 100000),(1,xi a),(4,xb 4),(100000,xb 100000)] [(100000,(98,[.bor u0 5 (.int .u8) b,yi c,yi d])),(4,(27,[yi e,yi f,.nil]))] []
def RT:ab:=⟨[0,1,4,100000],[100000,4],[],[],[]⟩
def FF(u0:Value)(a b:Int)(c:List Int)(d e f g:Int):St:=af [(0,xb 100000),(1,xi a),(4,xb 4),(6,xi b),(100000,xb 100000)] [(100000,(98,[.bor u0 5 (.int .u8) c,yi d,yi e])),(4,(27,[yi f,yi g,.nil]))] []
def RU:ab:=⟨[0,1,4,6,100000],[100000,4],[],[],[]⟩
def uc(u0:Value)(a b c:Int)(d:List Int)(e f g h:Int):St:=af [(0,xb 100000),(1,xi a),(4,xb 4),(6,xi b),(7,xi c),(100000,xb 100000)] [(100000,(98,[.bor u0 5 (.int .u8) d,yi e,yi f])),(4,(27,[yi g,yi h,.nil]))] []
def FG:ab:=⟨[0,1,4,6,7,100000],[100000,4],[],[],[]⟩
def FH(u0:Value)(a b:Int)(c:List Int)(d e f g:Int):St:=af [(0,xb 100000),(4,xb 4),(6,xi a),(7,xi b),(100000,xb 100000)] [(100000,(98,[.bor u0 5 (.int .u8) c,yi d,yi e])),(4,(27,[yi f,yi g,.nil]))] []
def RV:ab:=⟨[0,4,6,7,100000],[100000,4],[],[],[]⟩
def FI(u0:Value)(a b c:Int)(d:List Int)(e f g h:Int):St:=af [(0,xb 100000),(4,xb 4),(6,xi a),(7,xi b),(64,xi c),(100000,xb 100000)] [(100000,(98,[.bor u0 5 (.int .u8) d,yi e,yi f])),(4,(27,[yi g,yi h,.nil]))] []
def RW:ab:=⟨[0,4,6,7,64,100000],[100000,4],[],[],[]⟩
def zw(u0:Value)(a b c:Int)(d:Bool)(e:List Int)(f g h i:Int):St:=af [(0,xb 100000),(4,xb 4),(6,xi a),(7,xi b),(64,xi c),(65,xB d),(100000,xb 100000)] [(100000,(98,[.bor u0 5 (.int .u8) e,yi f,yi g])),(4,(27,[yi h,yi i,.nil]))] []
def RX:ab:=⟨[0,4,6,7,64,65,100000],[100000,4],[],[],[]⟩
def nb(u0:Value)(a:LI)(b c:Int)(d:List Int)(e f g h i j:Int):St:=af [(0,xb 100000),(4,xb 4),(6,xi b),(7,xi c),(8,xb 8),(100000,xb 100000)] [(100000,(98,[.bor u0 5 (.int .u8) d,yi e,yi f])),(4,(27,[yi g,yi h,.nil])),(8,(27,[yi i,yi j,.own 20000514]))] [(20000514,(⟨3,.int .i64,a,true,false⟩:ae))]
def ud:ab:=⟨[0,4,6,7,8,100000],[100000,4,8],[],[],[(⟨true,8,2⟩,20000514)]⟩
def ue(u0:Value)(a:LI)(b c d:Int)(e:List Int)(f g h i j l:Int):St:=af [(0,xb 100000),(4,xb 4),(6,xi b),(7,xi c),(8,xb 8),(9,xi d),(100000,xb 100000)] [(100000,(98,[.bor u0 5 (.int .u8) e,yi f,yi g])),(4,(27,[yi h,yi i,.nil])),(8,(27,[yi j,yi l,.own 20000514]))] [(20000514,(⟨3,.int .i64,a,true,false⟩:ae))]
def FJ:ab:=⟨[0,4,6,7,8,9,100000],[100000,4,8],[],[],[(⟨true,8,2⟩,20000514)]⟩
def zx(u0:Value)(a b:Int)(c:Bool)(d:List Int)(e f g h:Int):St:=af [(0,xb 100000),(4,xb 4),(7,xi a),(64,xi b),(110,xB c),(100000,xb 100000)] [(100000,(98,[.bor u0 5 (.int .u8) d,yi e,yi f])),(4,(27,[yi g,yi h,.nil]))] []
def RY:ab:=⟨[0,4,7,64,110,100000],[100000,4],[],[],[]⟩
def zy(u0:Value)(a b:Int)(c:Bool)(d:List Int)(e f g h:Int):St:=af [(0,xb 100000),(4,xb 4),(7,xi a),(64,xi b),(119,xB c),(100000,xb 100000)] [(100000,(98,[.bor u0 5 (.int .u8) d,yi e,yi f])),(4,(27,[yi g,yi h,.nil]))] []
def RZ:ab:=⟨[0,4,7,64,119,100000],[100000,4],[],[],[]⟩
def zz(u0:Value)(a b:Int)(c:Bool)(d:List Int)(e f g h:Int):St:=af [(0,xb 100000),(4,xb 4),(7,xi a),(64,xi b),(126,xB c),(100000,xb 100000)] [(100000,(98,[.bor u0 5 (.int .u8) d,yi e,yi f])),(4,(27,[yi g,yi h,.nil]))] []
def R0:ab:=⟨[0,4,7,64,126,100000],[100000,4],[],[],[]⟩
def FK(u0:Value)(a:LI)(b:List Int)(c d e f g h:Int):St:=af [(0,xb 100000),(4,xb 4),(12,xb 12),(100000,xb 100000)] [(100000,(98,[.bor u0 5 (.int .u8) b,yi c,yi d])),(4,(27,[yi e,yi f,.nil])),(12,(27,[yi g,yi h,.own 20000770]))] [(20000770,(⟨3,.int .i64,a,true,false⟩:ae))]
def R2:ab:=⟨[0,4,12,100000],[100000,4,12],[],[],[(⟨true,12,2⟩,20000770)]⟩
def uf(u0:Value)(a:LI)(b:Int)(c:List Int)(d e f g h i:Int):St:=af [(0,xb 100000),(4,xb 4),(12,xb 12),(13,xi b),(100000,xb 100000)] [(100000,(98,[.bor u0 5 (.int .u8) c,yi d,yi e])),(4,(27,[yi f,yi g,.nil])),(12,(27,[yi h,yi i,.own 20000770]))] [(20000770,(⟨3,.int .i64,a,true,false⟩:ae))]
def FL:ab:=⟨[0,4,12,13,100000],[100000,4,12],[],[],[(⟨true,12,2⟩,20000770)]⟩
def qW(u0:Value)(a:LI)(b c d e:Int)(f:List Int)(g h:Int):St:=af [(4,xb 4),(12,xb 12),(100000,xb 100000)] [(4,(27,[yi b,yi c,.nil])),(12,(27,[yi d,yi e,.own 20000770])),(100000,(98,[.bor u0 5 (.int .u8) f,yi g,yi h]))] [(20000770,(⟨3,.int .i64,a,true,false⟩:ae))]
def zA:ab:=⟨[4,12,100000],[4,12,100000],[],[],[(⟨true,12,2⟩,20000770)]⟩
def zB(u0:Value)(a:Int)(b:List Int)(c d e f:Int):St:=af [(0,xb 100000),(4,xb 4),(7,xi a),(100000,xb 100000)] [(100000,(98,[.bor u0 5 (.int .u8) b,yi c,yi d])),(4,(27,[yi e,yi f,.nil]))] []
def nh:ab:=⟨[0,4,7,100000],[100000,4],[],[],[]⟩
def FM(u0:Value)(a:LI)(b:Int)(c:List Int)(d e f g h i:Int):St:=af [(0,xb 100000),(4,xb 4),(7,xi b),(16,xb 16),(100000,xb 100000)] [(100000,(98,[.bor u0 5 (.int .u8) c,yi d,yi e])),(4,(27,[yi f,yi g,.nil])),(16,(27,[yi h,yi i,.own 20001026]))] [(20001026,(⟨3,.int .i64,a,true,false⟩:ae))]
def R3:ab:=⟨[0,4,7,16,100000],[100000,4,16],[],[],[(⟨true,16,2⟩,20001026)]⟩
def ug(u0:Value)(a:LI)(b c:Int)(d:List Int)(e f g h i j:Int):St:=af [(0,xb 100000),(4,xb 4),(7,xi b),(16,xb 16),(17,xi c),(100000,xb 100000)] [(100000,(98,[.bor u0 5 (.int .u8) d,yi e,yi f])),(4,(27,[yi g,yi h,.nil])),(16,(27,[yi i,yi j,.own 20001026]))] [(20001026,(⟨3,.int .i64,a,true,false⟩:ae))]
def FN:ab:=⟨[0,4,7,16,17,100000],[100000,4,16],[],[],[(⟨true,16,2⟩,20001026)]⟩
def qX(u0:Value)(a:LI)(b c d e f:Int)(g:List Int)(h i:Int):St:=af [(4,xb 4),(7,xi b),(16,xb 16),(100000,xb 100000)] [(4,(27,[yi c,yi d,.nil])),(16,(27,[yi e,yi f,.own 20001026])),(100000,(98,[.bor u0 5 (.int .u8) g,yi h,yi i]))] [(20001026,(⟨3,.int .i64,a,true,false⟩:ae))]
def zC:ab:=⟨[4,7,16,100000],[4,16,100000],[],[],[(⟨true,16,2⟩,20001026)]⟩
def lD(u0:Value)(a:LI)(b:ByteArray)(d e:Int)(f:List Int)(g h:Int):St:=af [(4,xb 4),(5,.c (.str b)),(100000,xb 100000)] [(4,(27,[yi d,yi e,.own 20000258])),(100000,(98,[.bor u0 5 (.int .u8) f,yi g,yi h]))] [(20000258,(⟨3,.int .i64,a,true,false⟩:ae))]
def R4:ab:=⟨[4,5,100000],[4,100000],[],[],[(⟨true,4,2⟩,20000258)]⟩
def R5:Nat->Option ab:=aA [(1,ud),(3,zA),(0,nh),(5,zC),(1000000,R4)]
abbrev dH{J:Type}(N n:Nat)(V:St)(l:ab)(K:KT J):Option J:=an FD aZ R5 N (aT 99 (a7 Tryz.f117) n) .n V (ay (some l) K)
def R6 N u0 b0 r0 a (K:KT J):dH N 2 (RS u0 b0 r0 a) RT K =
 spec_dTree.Z1 N b0 r0 a (λa b c d e f=>K .nrm (FE u0 a b c d e f)):=by kernel_rfl
def R7 N u0 a b c d e f (K:KT J):dH N 5 (FE u0 a b c d e f) RU K =
 spec_dTree.Z3 N a b c d e f (λa g b c d e f=>K .nrm (FF u0 a g b c d e f)):=by kernel_rfl
def R8 N u0 a b c d e f g (K:KT J):dH N 11 (FF u0 a b c d e f g) FG K =
 spec_dTree.Z5 N a b c d e f g (λa b h c d e f g=>K .nrm (uc u0 a b h c d e f g)):=by kernel_rfl
def R9 N u0 a b c d e f g h (K:KT J):dH N 23 (uc u0 a b c d e f g h) FG K =
 spec_dTree.Z7 N a b c d e f g h (λa b c d e f g h=>K .nrm (uc u0 a b c d e f g h)):=by kernel_rfl
def Sa N u0 h a b c d e f g (K:KT J):dH N 47 (uc u0 h a b c d e f g) RV K =
 spec_dTree.Z9 N h a b c d e f g (λa b c d e f g=>K .nrm (FH u0 a b c d e f g)):=by kernel_rfl
def Sb N u0 a b c d e f g (K:KT J):dH N 159 (FH u0 a b c d e f g) RW K =
 spec_dTree.Z12 N a b c d e f g (λa b h c d e f g=>K .nrm (FI u0 a b h c d e f g)):=by kernel_rfl
def Sc N u0 a b c d e f g h (K:KT J):dH N 607 (FI u0 a b c d e f g h) RX K =
 spec_dTree.Z15 N a b c d e f g h (λa b c i d e f g h=>K .nrm (zw u0 a b c i d e f g h)):=by kernel_rfl
def Sd N u0 a b h i c d e f g (K:KT J):dH N 2399 (zw u0 a b h i c d e f g) ud K =
 spec_dTree.Z18 N a b h i c d e f g (λj a b c d e f g l m=>K .nrm (nb u0 j a b c d e f g l m)):=by kernel_rfl
def Se N u0 a b c d e f g h i j (K:KT J):dH N 9567 (nb u0 a b c d e f g h i j) FJ K =
 spec_dTree.Z21 N a b c d e f g h i j (λa b c l d e f g h i j=>K .nrm (ue u0 a b c l d e f g h i j)):=by kernel_rfl
def Sf N u0 a b c l d e f g h i j (K:KT J):dH N 38239 (ue u0 a b c l d e f g h i j) FJ K =
 spec_dTree.Z24 N a b c l d e f g h i j (λa b c l d e f g h i j=>K .nrm (ue u0 a b c l d e f g h i j)) (λa b c d e f g h i j=>K (.exit 1) (nb u0 a b c d e f g h i j)):=by kernel_rfl
def Sg N u0 (K:KT J):=oh K (spec_dTree.Z23L N (λa b c d e f g h i j=>K (.exit 1) (nb u0 a b c d e f g h i j))) (λa b c l d e f g h i j k=>spec_dTree.Z24 N a b c l d e f g h i j k (λa b c d e f g h i j=>K (.exit 1) (nb u0 a b c d e f g h i j))) (λF a b c l d e f g h i j=>Sf N u0 a b c l d e f g h i j _) (by kernel_rfl)
def Sh N u0 a b c d e f g h i j l (K:KT J):=vL (ue u0 a b c d e f g h i j l) (Sg N u0 (jK ud K) N a b c d e f g h i j l) (by kernel_rfl)
def Si N u0 a b c l d e f g h i j (K:KT J):=vB 1 ud K (spec_dTree.Z22 N a b c l d e f g h i j (λa b c d e f g h i j=>K .nrm (nb u0 a b c d e f g h i j))) (Sh N u0 a b c l d e f g h i j _) (by kernel_rfl)
def Sj N u0 a b c d e f g h i j (K:KT J):=vQ (λk=>spec_dTree.Z21 N a b c d e f g h i j k) (Se N u0 a b c d e f g h i j _) (fQ λa b c l d e f g h i j=>Si N u0 a b c l d e f g h i j K)
def Sk N u0 f g h a b c d e i j (K:KT J):dH N 7519 (nb u0 f g h a b c d e i j) nh K =
 spec_dTree.Z25 N f g h a b c d e i j (λl m d e a b c=>K .ret (lD u0 l m d e a b c)):=by kernel_rfl
def Sl N u0 a b c d e f g h i j (K:KT J):=vQ (λk=>spec_dTree.Z20 N a b c d e f g h i j k) (Sj N u0 a b c d e f g h i j _) (dA λa b c d e f g h i j=>Sk N u0 a b c d e f g h i j K)
def Sm N u0 a b h i c d e f g (K:KT J):=vQ (λk=>spec_dTree.Z18 N a b h i c d e f g k) (Sd N u0 a b h i c d e f g _) (dA λj a b c d e f g l m=>Sl N u0 j a b c d e f g l m K)
def Sn N u0 h a b i c d e f g (K:KT J):dH N 2911 (zw u0 h a b i c d e f g) RY K =
 spec_dTree.Z27 N h a b i c d e f g (λa b j c d e f g=>K .nrm (zx u0 a b j c d e f g)):=by kernel_rfl
def So N u0 f g h a b c d e (K:KT J):dH N 5983 (zx u0 f g h a b c d e) nh K =
 spec_dTree.Z29 N f g h a b c d e (λi j d e a b c=>K .ret (lD u0 i j d e a b c)):=by kernel_rfl
def Sp N u0 a b h c d e f g (K:KT J):dH N 12127 (zx u0 a b h c d e f g) RZ K =
 spec_dTree.Z31 N a b h c d e f g (λa b i c d e f g=>K .nrm (zy u0 a b i c d e f g)):=by kernel_rfl
def Sq N u0 f g h a b c d e (K:KT J):dH N 24415 (zy u0 f g h a b c d e) nh K =
 spec_dTree.Z33 N f g h a b c d e (λi j d e a b c=>K .ret (lD u0 i j d e a b c)):=by kernel_rfl
def Sr N u0 a b h c d e f g (K:KT J):dH N 48991 (zy u0 a b h c d e f g) R0 K =
 spec_dTree.Z35 N a b h c d e f g (λa b i c d e f g=>K .nrm (zz u0 a b i c d e f g)):=by kernel_rfl
def Ss N u0 f g h a b c d e (K:KT J):dH N 163679 (zz u0 f g h a b c d e) R2 K =
 spec_dTree.Z38 N f g h a b c d e (λi a b c d e j l=>K .nrm (FK u0 i a b c d e j l)):=by kernel_rfl
def Su N u0 a b c d e f g h (K:KT J):dH N 622431 (FK u0 a b c d e f g h) FL K =
 spec_dTree.Z41 N a b c d e f g h (λa i b c d e f g h=>K .nrm (uf u0 a i b c d e f g h)):=by kernel_rfl
def Sv N u0 a i b c d e f g h (K:KT J):dH N 2457439 (uf u0 a i b c d e f g h) FL K =
 spec_dTree.Z44 N a i b c d e f g h (λa i b c d e f g h=>K .nrm (uf u0 a i b c d e f g h)) (λa e f g h b c d=>K (.exit 3) (qW u0 a e f g h b c d)):=by kernel_rfl
def Sw N u0 (K:KT J):=tg K (spec_dTree.Z43L N (λa b c d e f g h=>K (.exit 3) (qW u0 a b c d e f g h))) (λa i f g h b c d e k=>spec_dTree.Z44 N a i f g h b c d e k (λa b c d e f g h=>K (.exit 3) (qW u0 a b c d e f g h))) (λF a i f g h b c d e=>Sv N u0 a i f g h b c d e _) (by kernel_rfl)
def Sx N u0 a b c d e f g h i (K:KT J):=vL (uf u0 a b c d e f g h i) (Sw N u0 (jK zA K) N a b c d e f g h i) (by kernel_rfl)
def Sy N u0 a i b c d e f g h (K:KT J):=vB 3 zA K (spec_dTree.Z42 N a i b c d e f g h (λa e f g h b c d=>K .nrm (qW u0 a e f g h b c d))) (Sx N u0 a i b c d e f g h _) (by kernel_rfl)
def Sz N u0 a b c d e f g h (K:KT J):=vQ (λk=>spec_dTree.Z41 N a b c d e f g h k) (Su N u0 a b c d e f g h _) (dT λa i b c d e f g h=>Sy N u0 a i b c d e f g h K)
def SA N u0 f a b g h c d e (K:KT J):dH N 491359 (qW u0 f a b g h c d e) nh K =
 spec_dTree.Z45 N f a b g h c d e (λi j a b c d e=>K .ret (lD u0 i j a b c d e)):=by kernel_rfl
def SB N u0 a b c d e f g h (K:KT J):=vQ (λk=>spec_dTree.Z40 N a b c d e f g h k) (Sz N u0 a b c d e f g h _) (du λa e f g h b c d=>SA N u0 a e f g h b c d K)
def SC N u0 f g h a b c d e (K:KT J):=vQ (λk=>spec_dTree.Z38 N f g h a b c d e k) (Ss N u0 f g h a b c d e _) (du λi a b c d e j l=>SB N u0 i a b c d e j l K)
def SD N u0 f g h a b c d e (K:KT J):dH N 130911 (zz u0 f g h a b c d e) nh K =
 spec_dTree.Z46 N f g h a b c d e (λf a b c d e=>K .nrm (zB u0 f a b c d e)) (λi j d e a b c=>K .ret (lD u0 i j d e a b c)):=by kernel_rfl
def SE N u0 b c a d e f g h (K:KT J):=vI (.tmp 126) (a) (SC N u0 b c a d e f g h K) (SD N u0 b c a d e f g h K) (by kernel_rfl)
def SF N u0 a b h c d e f g (K:KT J):=vQ (λk=>spec_dTree.Z35 N a b h c d e f g k) (Sr N u0 a b h c d e f g _) (du λa b i c d e f g=>SE N u0 a b i c d e f g K)
def SG N u0 b c a d e f g h (K:KT J):=vI (.tmp 119) (a) (Sq N u0 b c a d e f g h K) (SF N u0 b c a d e f g h K) (by kernel_rfl)
def SH N u0 a b h c d e f g (K:KT J):=vQ (λk=>spec_dTree.Z31 N a b h c d e f g k) (Sp N u0 a b h c d e f g _) (du λa b i c d e f g=>SG N u0 a b i c d e f g K)
def SI N u0 b c a d e f g h (K:KT J):=vI (.tmp 110) (a) (So N u0 b c a d e f g h K) (SH N u0 b c a d e f g h K) (by kernel_rfl)
def SJ N u0 h a b i c d e f g (K:KT J):=vQ (λk=>spec_dTree.Z27 N h a b i c d e f g k) (Sn N u0 h a b i c d e f g _) (du λa b j c d e f g=>SI N u0 a b j c d e f g K)
def SK N u0 b c d a e f g h i (K:KT J):=vI (.tmp 65) (a) (Sm N u0 b c d a e f g h i K) (SJ N u0 b c d a e f g h i K) (by kernel_rfl)
def SL N u0 a b c d e f g h (K:KT J):=vQ (λk=>spec_dTree.Z15 N a b c d e f g h k) (Sc N u0 a b c d e f g h _) (dT λa b c i d e f g h=>SK N u0 a b c i d e f g h K)
def SM N u0 g f h a b c d e (K:KT J):=vB 0 nh K (spec_dTree.Z13 N g f h a b c d e (λf a b c d e=>K .nrm (zB u0 f a b c d e)) (λi j d e a b c=>K .ret (lD u0 i j d e a b c))) (SL N u0 g f h a b c d e _) (by kernel_rfl)
def SN N u0 a b c d e f g (K:KT J):=vQ (λk=>spec_dTree.Z12 N a b c d e f g k) (Sb N u0 a b c d e f g _) (du λa b h c d e f g=>SM N u0 a b h c d e f g K)
def SO N u0 a b c d e f (K:KT J):dH N 191 (zB u0 a b c d e f) R3 K =
 spec_dTree.Z48 N a b c d e f (λg a b c d e f h i=>K .nrm (FM u0 g a b c d e f h i)):=by kernel_rfl
def SP N u0 a b c d e f g h i (K:KT J):dH N 639 (FM u0 a b c d e f g h i) FN K =
 spec_dTree.Z51 N a b c d e f g h i (λa b j c d e f g h i=>K .nrm (ug u0 a b j c d e f g h i)):=by kernel_rfl
def SQ N u0 a b j c d e f g h i (K:KT J):dH N 2431 (ug u0 a b j c d e f g h i) FN K =
 spec_dTree.Z54 N a b j c d e f g h i (λa b j c d e f g h i=>K .nrm (ug u0 a b j c d e f g h i)) (λa b f g h i c d e=>K (.exit 5) (qX u0 a b f g h i c d e)):=by kernel_rfl
def SR N u0 (K:KT J):=jC K (spec_dTree.Z53L N (λa b c d e f g h i=>K (.exit 5) (qX u0 a b c d e f g h i))) (λa b j g h i c d e f k=>spec_dTree.Z54 N a b j g h i c d e f k (λa b c d e f g h i=>K (.exit 5) (qX u0 a b c d e f g h i))) (λF a b j g h i c d e f=>SQ N u0 a b j g h i c d e f _) (by kernel_rfl)
def SS N u0 a b c d e f g h i j (K:KT J):=vL (ug u0 a b c d e f g h i j) (SR N u0 (jK zC K) N a b c d e f g h i j) (by kernel_rfl)
def ST N u0 a b j c d e f g h i (K:KT J):=vB 5 zC K (spec_dTree.Z52 N a b j c d e f g h i (λa b f g h i c d e=>K .nrm (qX u0 a b f g h i c d e))) (SS N u0 a b j c d e f g h i _) (by kernel_rfl)
def SU N u0 a b c d e f g h i (K:KT J):=vQ (λk=>spec_dTree.Z51 N a b c d e f g h i k) (SP N u0 a b c d e f g h i _) (dA λa b j c d e f g h i=>ST N u0 a b j c d e f g h i K)
def SW N u0 f g a b h i c d e (K:KT J):dH N 511 (qX u0 f g a b h i c d e) RR K =
 spec_dTree.Z55 N f g a b h i c d e (λj l a b c d e=>K .ret (lD u0 j l a b c d e)):=by kernel_rfl
def SX N u0 a b c d e f g h i (K:KT J):=vQ (λk=>spec_dTree.Z50 N a b c d e f g h i k) (SU N u0 a b c d e f g h i _) (dT λa b f g h i c d e=>SW N u0 a b f g h i c d e K)
def SY N u0 a b c d e f (K:KT J):=vQ (λk=>spec_dTree.Z48 N a b c d e f k) (SO N u0 a b c d e f _) (dT λg a b c d e f h i=>SX N u0 g a b c d e f h i K)
def SZ N u0 g f a b c d e (K:KT J):=vQ (λk=>spec_dTree.Z11 N g f a b c d e k (λh i d e a b c=>K .ret (lD u0 h i d e a b c))) (SN N u0 g f a b c d e _) (cB λf a b c d e=>SY N u0 f a b c d e K)
def S2 N u0 h a b c d e f g (K:KT J):=vQ (λk=>spec_dTree.Z9 N h a b c d e f g k) (Sa N u0 h a b c d e f g _) (eA λa b c d e f g=>SZ N u0 a b c d e f g K)
def S3 N u0 a b c d e f g h (K:KT J):=vQ (λk=>spec_dTree.Z7 N a b c d e f g h k) (R9 N u0 a b c d e f g h _) (du λa b c d e f g h=>S2 N u0 a b c d e f g h K)
def S4 N u0 a b c d e f g (K:KT J):=vQ (λk=>spec_dTree.Z5 N a b c d e f g k) (R8 N u0 a b c d e f g _) (du λa b h c d e f g=>S3 N u0 a b h c d e f g K)
def S5 N u0 a b c d e f (K:KT J):=vQ (λk=>spec_dTree.Z3 N a b c d e f k) (R7 N u0 a b c d e f _) (eA λa g b c d e f=>S4 N u0 a g b c d e f K)
def S6 N u0 b0 r0 a (K:KT J):=vQ (λk=>spec_dTree.Z1 N b0 r0 a k) (R6 N u0 b0 r0 a _) (cB λa b c d e f=>S5 N u0 a b c d e f K)
def S7(h:spec_dTree.Spec):dj Tryz.prog 117 zu :=
 jk Tryz.func117 a8 RQ (λN u X K=>S6 N u X.1.1.1 X.1.2 X.2.1 K) (by kernel_rfl) λu0 X hb1 hb2 hp=>by obtain⟨⟨⟨b0,_⟩,r0⟩,a,_⟩:=X;obtain⟨N,h⟩:=h [u0] b0 r0 a hb1.1 hp;exact⟨N,Eq.trans (by kernel_rfl) (h N (Nat.le_refl N))⟩
def S8:dj Tryz.prog 117 zu:=S7 spec_dTree.ok
def FO:ba:=⟨[⟨.int .i64,false,false⟩,⟨.int .i64,false,false⟩,⟨.int .i64,false,false⟩],[⟨.bool,false,false⟩]⟩
def uh:aQ:=⟨FO,none,λX=>((),((gI.g X.1 X.2.1 X.2.2.1),()))⟩
def FP:Gm:=aY
def S9:ao Tryz.prog FP:=ao.nil
def Ta:ab:=⟨[],[],[],[],[]⟩
def Tb(a b c:Int):St:=bu FO.ps (a,(b,(c,())))
def Tc(a:Bool):St:=af [(6,xB a)] [] []
def Td:ab:=⟨[6],[],[],[],[]⟩
def Te:Nat->Option ab:=aA [(1000000,Td)]
abbrev Tf{J:Type}(N n:Nat)(V:St)(l:ab)(K:KT J):Option J:=an FP aZ Te N (aT 99 (a7 Tryz.f104) n) .n V (ay (some l) K)
def Tg N a b c (K:KT J):Tf N 1 (Tb a b c) Ta K =
 gI.Z0 N a b c (λd=>K .ret (Tc d)):=by kernel_rfl
def Th(h:gI.Spec):aw Tryz.prog 104 uh :=
 bA Tryz.func104 a8 S9 (λN X K=>Tg N X.1 X.2.1 X.2.2.1 K) (by kernel_rfl) λX hb hp=>by obtain⟨a,b,c,_⟩:=X;obtain⟨N,h⟩:=h a b c;exact⟨N,Eq.trans (by kernel_rfl) (h N (Nat.le_refl N))⟩
def FQ:aw Tryz.prog 104 uh:=Th gI.ok
def FR:ba:=⟨[⟨.pair (.int .i64) (.pair (.int .i64) (.sl 3 (.int .i64))),true,false⟩,⟨.int .i64,false,false⟩,⟨.int .i64,false,false⟩],[⟨.int .i64,false,false⟩]⟩
def ni:aQ:=⟨FR,(some λX=>bG.P X.1 X.2.1 X.2.2.1),λX=>((),((bG.g X.1 X.2.1 X.2.2.1),()))⟩
def FS:Gm:=aY
def Ti:ao Tryz.prog FS:=ao.nil
def Tj:ab:=⟨[],[],[],[],[]⟩
def Tk(a:MT)(b c:Int):St:=bu FR.ps (a,(b,(c,())))
def Tl(a:Int):St:=af [(6,xi a)] [] []
def Tm:ab:=⟨[6],[],[],[],[]⟩
def Tn:Nat->Option ab:=aA [(1000000,Tm)]
abbrev To{J:Type}(N n:Nat)(V:St)(l:ab)(K:KT J):Option J:=an FS aZ Tn N (aT 99 (a7 Tryz.f105) n) .n V (ay (some l) K)
def Tq N a b c (K:KT J):To N 1 (Tk a b c) Tj K =
 bG.Z0 N a b c (λd=>K .ret (Tl d)):=by kernel_rfl
def Tr(h:bG.Spec):aw Tryz.prog 105 ni :=
 bA Tryz.func105 a8 Ti (λN X K=>Tq N X.1 X.2.1 X.2.2.1 K) (by kernel_rfl) λX hb hp=>by obtain⟨a,b,c,_⟩:=X;obtain⟨N,h⟩:=h a b c hb.1 hp;exact⟨N,Eq.trans (by kernel_rfl) (h N (Nat.le_refl N))⟩
def qY:aw Tryz.prog 105 ni:=Tr bG.ok
def FT:ba:=⟨[⟨.pair (.int .i64) (.pair (.int .i64) (.sl 3 (.int .i64))),true,false⟩],[⟨.bool,false,false⟩]⟩
def qZ:aQ:=⟨FT,none,λX=>((),((cj.g X.1),()))⟩
def FU:Gm:=aI (aI aY 104 uh) 105 ni
def Ts:ao Tryz.prog FU:=((ao.nil).add FQ (by kernel_rfl)).add qY (by kernel_rfl)
def Tt:ab:=⟨[],[],[],[],[]⟩
def Tu(a:MT):St:=bu FT.ps (a,())
def kz(a b:Int)(c:LI):St:=af [(1,xb 1)] [(1,(27,[yi a,yi b,.sn 3 tI c none]))] []
def q6:ab:=⟨[1],[1],[],[],[]⟩
def ui(a b c:Int)(d:LI):St:=af [(1,xb 1),(3,xi a)] [(1,(27,[yi b,yi c,.sn 3 tI d none]))] []
def FV:ab:=⟨[1,3],[1],[],[],[]⟩
def iJ(a b c:Int)(d:LI):St:=af [(1,xb 1),(4,xi a)] [(1,(27,[yi b,yi c,.sn 3 tI d none]))] []
def lE:ab:=⟨[1,4],[1],[],[],[]⟩
def uj(a b c d:Int)(e:LI):St:=af [(1,xb 1),(4,xi a),(5,xi b)] [(1,(27,[yi c,yi d,.sn 3 tI e none]))] []
def FW:ab:=⟨[1,4,5],[1],[],[],[]⟩
def oL :St:=af [] [] []
def zD:ab:=⟨[],[],[],[],[]⟩
def fz(a:Bool):St:=af [(2,xB a)] [] []
def Tv:ab:=⟨[2],[],[],[],[]⟩
def Tw:Nat->Option ab:=aA [(0,q6),(4,lE),(3,lE),(2,zD),(1000000,Tv)]
abbrev jP{J:Type}(N n:Nat)(V:St)(l:ab)(K:KT J):Option J:=an FU aZ Tw N (aT 99 (a7 Tryz.f65) n) .n V (ay (some l) K)
def Tx N a (K:KT J):jP N 2 (Tu a) q6 K =
 cj.Z1 N a (λb c d=>K .nrm (kz b c d)):=by kernel_rfl
def Tz N a b c (K:KT J):jP N 5 (kz a b c) q6 K =
 cj.Z3 N a b c (λa b c=>K .nrm (kz a b c)) (λd=>K .ret (fz d)):=by kernel_rfl
def TA N a b c (K:KT J):jP N 19 (kz a b c) FV K =
 cj.Z6 N a b c (λd a b c=>K .nrm (ui d a b c)):=by kernel_rfl
def TB N d a b c (K:KT J):jP N 75 (ui d a b c) FV K =
 cj.Z9 N d a b c (λd a b c=>K .nrm (ui d a b c)) (λa b c=>K (.exit 0) (kz a b c)) (λe=>K .ret (fz e)):=by kernel_rfl
def TC N (K:KT J):=mN K (cj.Z8L N (λa b c=>K (.exit 0) (kz a b c)) (λd=>K .ret (fz d))) (λe a b c k=>cj.Z9 N e a b c k (λa b c=>K (.exit 0) (kz a b c)) (λd=>K .ret (fz d))) (λF e a b c=>TB N e a b c _) (by kernel_rfl)
def TD N a b c d (K:KT J):=vL (ui a b c d) (TC N (jK q6 K) N a b c d) (by kernel_rfl)
def TE N d a b c (K:KT J):=vB 0 q6 K (cj.Z7 N d a b c (λa b c=>K .nrm (kz a b c)) (λe=>K .ret (fz e))) (TD N d a b c _) (by kernel_rfl)
def TF N a b c (K:KT J):=vQ (λk=>cj.Z6 N a b c k) (TA N a b c _) (d7 λd a b c=>TE N d a b c K)
def TG N a b c (K:KT J):jP N 39 (kz a b c) lE K =
 cj.Z12 N a b c (λd a b c=>K .nrm (iJ d a b c)):=by kernel_rfl
def TH N a b c d (K:KT J):jP N 279 (iJ a b c d) lE K =
 cj.Z16 N a b c d (λa b c d=>K .nrm (iJ a b c d)) (K (.exit 2) oL):=by kernel_rfl
def TJ N a b c d (K:KT J):jP N 2199 (iJ a b c d) FW K =
 cj.Z20 N a b c d (λa e b c d=>K .nrm (uj a e b c d)):=by kernel_rfl
def TK N a e b c d (K:KT J):jP N 9367 (uj a e b c d) FW K =
 cj.Z23 N a e b c d (λa e b c d=>K .nrm (uj a e b c d)) (λa b c d=>K (.exit 4) (iJ a b c d)) (λf=>K .ret (fz f)):=by kernel_rfl
def TL N (K:KT J):=mO K (cj.Z22L N (λa b c d=>K (.exit 4) (iJ a b c d)) (λe=>K .ret (fz e))) (λa f b c d k=>cj.Z23 N a f b c d k (λa b c d=>K (.exit 4) (iJ a b c d)) (λe=>K .ret (fz e))) (λF a f b c d=>TK N a f b c d _) (by kernel_rfl)
def TM N a b c d e (K:KT J):=vL (uj a b c d e) (TL N (jK lE K) N a b c d e) (by kernel_rfl)
def TN N a e b c d (K:KT J):=vB 4 lE K (cj.Z21 N a e b c d (λa b c d=>K .nrm (iJ a b c d)) (λf=>K .ret (fz f))) (TM N a e b c d _) (by kernel_rfl)
def TO N a b c d (K:KT J):=vQ (λk=>cj.Z20 N a b c d k) (TJ N a b c d _) (cn λa e b c d=>TN N a e b c d K)
def TP N a b c d (K:KT J):=vB 3 lE K (cj.Z18 N a b c d (λa b c d=>K .nrm (iJ a b c d)) (λe=>K .ret (fz e))) (TO N a b c d _) (by kernel_rfl)
def TQ N a b c d (K:KT J):jP N 919 (iJ a b c d) lE K =
 cj.Z24 N a b c d (λa b c d=>K .nrm (iJ a b c d)):=by kernel_rfl
def TR N a b c d (K:KT J):=vQ (λk=>cj.Z18 N a b c d k (λe=>K .ret (fz e))) (TP N a b c d _) (d7 λa b c d=>TQ N a b c d K)
def TS N a b c d (K:KT J):=vQ (λk=>cj.Z16 N a b c d k (K (.exit 2) oL)) (TH N a b c d _) (d7 λa b c d=>TR N a b c d K)
def TT N (K:KT J):=mN K (cj.Z14L N (K (.exit 2) oL) (λa=>K .ret (fz a))) (λb c d e k=>cj.Z15 N b c d e k (K (.exit 2) oL) (λa=>K .ret (fz a))) (λF b c d e=>TS N b c d e _) (by kernel_rfl)
def TU N a b c d (K:KT J):=vL (iJ a b c d) (TT N (jK zD K) N a b c d) (by kernel_rfl)
def TV N a b c d (K:KT J):=vB 2 zD K (cj.Z13 N a b c d (K .nrm oL) (λe=>K .ret (fz e))) (TU N a b c d _) (by kernel_rfl)
def TW N a b c (K:KT J):=vQ (λk=>cj.Z12 N a b c k) (TG N a b c _) (d7 λd a b c=>TV N d a b c K)
def TX N  (K:KT J):jP N 31 oL Tt K =
 cj.Z25 N (λa=>K .ret (fz a)):=by kernel_rfl
def TY N a b c (K:KT J):=vQ (λk=>cj.Z11 N a b c k (λd=>K .ret (fz d))) (TW N a b c _) (TX N K)
def TZ N a b c (K:KT J):=vQ (λk=>cj.Z5 N a b c k (λd=>K .ret (fz d))) (TF N a b c _) (cF λa b c=>TY N a b c K)
def T0 N a b c (K:KT J):=vQ (λk=>cj.Z3 N a b c k (λd=>K .ret (fz d))) (Tz N a b c _) (cF λa b c=>TZ N a b c K)
def T1 N a (K:KT J):=vQ (λk=>cj.Z1 N a k) (Tx N a _) (cF λb c d=>T0 N b c d K)
def T4(h:cj.Spec):aw Tryz.prog 65 qZ :=
 bA Tryz.func65 a8 Ts (λN X K=>T1 N X.1 K) (by kernel_rfl) λX hb hp=>by obtain⟨a,_⟩:=X;obtain⟨N,h⟩:=h a hb.1;exact⟨N,Eq.trans (by kernel_rfl) (h N (Nat.le_refl N))⟩
def zF:aw Tryz.prog 65 qZ:=T4 cj.ok
def FX:ba:=⟨[⟨.sl 3 (.int .i64),false,false⟩,⟨.int .i64,false,false⟩],[⟨.bool,false,false⟩]⟩
def uk:aQ:=⟨FX,none,λX=>((),((dW.g X.1 X.2.1),()))⟩
def FY:Gm:=aY
def T5:ao Tryz.prog FY:=ao.nil
def T6:ab:=⟨[],[],[],[],[]⟩
def T7(a:LI)(b:Int):St:=bu FX.ps (a,(b,()))
def FZ(a:LI)(b:Int):St:=af [(0,.c (.sn 3 tI a none)),(1,xi b)] [] []
def T8:ab:=⟨[0,1],[],[],[],[]⟩
def ul(a:LI)(b d:Int):St:=af [(0,.c (.sn 3 tI a none)),(1,xi b),(5,xi d)] [] []
def F0:ab:=⟨[0,1,5],[],[],[],[]⟩
def q7 :St:=af [] [] []
def zG:ab:=⟨[],[],[],[],[]⟩
def oM(a:Bool):St:=af [(4,xB a)] [] []
def T9:ab:=⟨[4],[],[],[],[]⟩
def Ua:Nat->Option ab:=aA [(0,zG),(1000000,T9)]
abbrev um{J:Type}(N n:Nat)(V:St)(l:ab)(K:KT J):Option J:=an FY aZ Ua N (aT 99 (a7 Tryz.f72) n) .n V (ay (some l) K)
def Ub N a b (K:KT J):um N 2 (T7 a b) T8 K =
 dW.Z1 N a b (λa b=>K .nrm (FZ a b)):=by kernel_rfl
def Uc N a b (K:KT J):um N 9 (FZ a b) F0 K =
 dW.Z4 N a b (λa b c=>K .nrm (ul a b c)):=by kernel_rfl
def Ud N a b c (K:KT J):um N 37 (ul a b c) F0 K =
 dW.Z7 N a b c (λa b c=>K .nrm (ul a b c)) (K (.exit 0) q7) (λd=>K .ret (oM d)):=by kernel_rfl
def Ue N (K:KT J):=g8 K (dW.Z6L N (K (.exit 0) q7) (λa=>K .ret (oM a))) (λb c d k=>dW.Z7 N b c d k (K (.exit 0) q7) (λa=>K .ret (oM a))) (λF b c d=>Ud N b c d _) (by kernel_rfl)
def Uf N a b c (K:KT J):=vL (ul a b c) (Ue N (jK zG K) N a b c) (by kernel_rfl)
def Ug N a b c (K:KT J):=vB 0 zG K (dW.Z5 N a b c (K .nrm q7) (λd=>K .ret (oM d))) (Uf N a b c _) (by kernel_rfl)
def Uh N a b (K:KT J):=vQ (λk=>dW.Z4 N a b k) (Uc N a b _) (cF λa b c=>Ug N a b c K)
def Ui N  (K:KT J):um N 7 q7 T6 K =
 dW.Z8 N (λa=>K .ret (oM a)):=by kernel_rfl
def Uj N a b (K:KT J):=vQ (λk=>dW.Z3 N a b k (λc=>K .ret (oM c))) (Uh N a b _) (Ui N K)
def Uk N a b (K:KT J):=vQ (λk=>dW.Z1 N a b k) (Ub N a b _) (cV λa b=>Uj N a b K)
def Ul(h:dW.Spec):aw Tryz.prog 72 uk :=
 bA Tryz.func72 a8 T5 (λN X K=>Uk N X.1 X.2.1 K) (by kernel_rfl) λX hb hp=>by obtain⟨a,b,_⟩:=X;obtain⟨N,h⟩:=h a b hb.1;exact⟨N,Eq.trans (by kernel_rfl) (h N (Nat.le_refl N))⟩
def F1:aw Tryz.prog 72 uk:=Ul dW.ok
def F2:ba:=⟨[⟨.pair (.int .i64) (.pair (.int .i64) (.sl 3 (.int .i64))),true,false⟩,⟨.int .i64,false,false⟩],[⟨.sl 3 (.int .i64),false,false⟩,⟨.sl 3 (.int .i64),false,false⟩]⟩
def zH:aQ:=⟨F2,(some λX=>cx.P X.1 X.2.1),λX=>((),((cx.g X.1 X.2.1).1,((cx.g X.1 X.2.1).2,())))⟩
def F3:Gm:=aI (aI aY 72 uk) 105 ni
def Um:ao Tryz.prog F3:=((ao.nil).add F1 (by kernel_rfl)).add qY (by kernel_rfl)
def Un:ab:=⟨[],[],[],[],[]⟩
def Uo(a:MT)(b:Int):St:=bu F2.ps (a,(b,()))
def F4(a b c:Int)(d:LI):St:=af [(1,xi a),(2,xb 2)] [(2,(27,[yi b,yi c,.sn 3 tI d none]))] []
def Up:ab:=⟨[1,2],[2],[],[],[]⟩
def F5(a:LI)(b c d:Int)(e:LI):St:=af [(1,xi b),(2,xb 2),(6,xo 1000384)] [(2,(27,[yi c,yi d,.sn 3 tI e none]))] [(1000384,(⟨3,.int .i64,a,true,false⟩:ae))]
def Uq:ab:=⟨[1,2,6],[2],[],[],[(⟨false,6,0⟩,1000384)]⟩
def F6(a b:LI)(c d:Int)(e:LI):St:=af [(2,xb 2),(6,xo 1000384),(7,xo 1000448)] [(2,(27,[yi c,yi d,.sn 3 tI e none]))] [(1000384,(⟨3,.int .i64,a,true,false⟩:ae)),(1000448,(⟨3,.int .i64,b,true,false⟩:ae))]
def Ur:ab:=⟨[2,6,7],[2],[],[],[(⟨false,6,0⟩,1000384),(⟨false,7,0⟩,1000448)]⟩
def iK(a b:LI)(c d e:Int)(f:LI):St:=af [(2,xb 2),(6,xo 1000384),(7,xo 1000448),(8,xi c)] [(2,(27,[yi d,yi e,.sn 3 tI f none]))] [(1000384,(⟨3,.int .i64,a,true,false⟩:ae)),(1000448,(⟨3,.int .i64,b,true,false⟩:ae))]
def lF:ab:=⟨[2,6,7,8],[2],[],[],[(⟨false,6,0⟩,1000384),(⟨false,7,0⟩,1000448)]⟩
def un(a b:LI)(c d e f:Int)(g:LI):St:=af [(2,xb 2),(6,xo 1000384),(7,xo 1000448),(8,xi c),(9,xi d)] [(2,(27,[yi e,yi f,.sn 3 tI g none]))] [(1000384,(⟨3,.int .i64,a,true,false⟩:ae)),(1000448,(⟨3,.int .i64,b,true,false⟩:ae))]
def F7:ab:=⟨[2,6,7,8,9],[2],[],[],[(⟨false,6,0⟩,1000384),(⟨false,7,0⟩,1000448)]⟩
def oN(a b:LI):St:=af [(6,xo 1000384),(7,xo 1000448)] [] [(1000384,(⟨3,.int .i64,a,true,false⟩:ae)),(1000448,(⟨3,.int .i64,b,true,false⟩:ae))]
def zI:ab:=⟨[6,7],[],[],[],[(⟨false,6,0⟩,1000384),(⟨false,7,0⟩,1000448)]⟩
def Us(a b:LI):St:=af [(4,xo 1000256),(5,xo 1000320)] [] [(1000256,(⟨3,.int .i64,a,true,false⟩:ae)),(1000320,(⟨3,.int .i64,b,true,false⟩:ae))]
def Ut:ab:=⟨[4,5],[],[],[],[(⟨false,4,0⟩,1000256),(⟨false,5,0⟩,1000320)]⟩
def Uu:Nat->Option ab:=aA [(2,lF),(1,lF),(0,zI),(1000000,Ut)]
abbrev kA{J:Type}(N n:Nat)(V:St)(l:ab)(K:KT J):Option J:=an F3 aZ Uu N (aT 99 (a7 Tryz.f73) n) .n V (ay (some l) K)
def Uv N b a (K:KT J):kA N 2 (Uo b a) Up K =
 cx.Z1 N b a (λa c d e=>K .nrm (F4 a c d e)):=by kernel_rfl
def Uw N a b c d (K:KT J):kA N 5 (F4 a b c d) Uq K =
 cx.Z3 N a b c d (λe a b c d=>K .nrm (F5 e a b c d)):=by kernel_rfl
def Ux N a e b c d (K:KT J):kA N 11 (F5 a e b c d) Ur K =
 cx.Z5 N a e b c d (λa f b c d=>K .nrm (F6 a f b c d)):=by kernel_rfl
def Uy N a b c d e (K:KT J):kA N 39 (F6 a b c d e) lF K =
 cx.Z8 N a b c d e (λa b f c d e=>K .nrm (iK a b f c d e)):=by kernel_rfl
def Uz N a b c d e f (K:KT J):kA N 279 (iK a b c d e f) lF K =
 cx.Z12 N a b c d e f (λa b c d e f=>K .nrm (iK a b c d e f)) (λa b=>K (.exit 0) (oN a b)):=by kernel_rfl
def UA N a b c d e f (K:KT J):kA N 2199 (iK a b c d e f) F7 K =
 cx.Z16 N a b c d e f (λa b c g d e f=>K .nrm (un a b c g d e f)):=by kernel_rfl
def UB N a b c g d e f (K:KT J):kA N 9367 (un a b c g d e f) F7 K =
 cx.Z19 N a b c g d e f (λa b c g d e f=>K .nrm (un a b c g d e f)) (λa b c d e f=>K (.exit 2) (iK a b c d e f)):=by kernel_rfl
def UC N (K:KT J):=qx K (cx.Z18L N (λa b c d e f=>K (.exit 2) (iK a b c d e f))) (λa b c g d e f k=>cx.Z19 N a b c g d e f k (λa b c d e f=>K (.exit 2) (iK a b c d e f))) (λF a b c g d e f=>UB N a b c g d e f _) (by kernel_rfl)
def UD N a b c d e f g (K:KT J):=vL (un a b c d e f g) (UC N (jK lF K) N a b c d e f g) (by kernel_rfl)
def UE N a b c g d e f (K:KT J):=vB 2 lF K (cx.Z17 N a b c g d e f (λa b c d e f=>K .nrm (iK a b c d e f))) (UD N a b c g d e f _) (by kernel_rfl)
def UF N a b c d e f (K:KT J):=vQ (λk=>cx.Z16 N a b c d e f k) (UA N a b c d e f _) (eA λa b c g d e f=>UE N a b c g d e f K)
def UG N a b c d e f (K:KT J):=vB 1 lF K (cx.Z14 N a b c d e f (λa b c d e f=>K .nrm (iK a b c d e f))) (UF N a b c d e f _) (by kernel_rfl)
def UH N a b c d e f (K:KT J):kA N 919 (iK a b c d e f) lF K =
 cx.Z20 N a b c d e f (λa b c d e f=>K .nrm (iK a b c d e f)):=by kernel_rfl
def UI N a b c d e f (K:KT J):=vQ (λk=>cx.Z14 N a b c d e f k) (UG N a b c d e f _) (cB λa b c d e f=>UH N a b c d e f K)
def UJ N a b c d e f (K:KT J):=vQ (λk=>cx.Z12 N a b c d e f k (λa b=>K (.exit 0) (oN a b))) (Uz N a b c d e f _) (cB λa b c d e f=>UI N a b c d e f K)
def UK N (K:KT J):=kf K (cx.Z10L N (λa b=>K (.exit 0) (oN a b))) (λa b c d e f k=>cx.Z11 N a b c d e f k (λa b=>K (.exit 0) (oN a b))) (λF a b c d e f=>UJ N a b c d e f _) (by kernel_rfl)
def UL N a b c d e f (K:KT J):=vL (iK a b c d e f) (UK N (jK zI K) N a b c d e f) (by kernel_rfl)
def UM N a b c d e f (K:KT J):=vB 0 zI K (cx.Z9 N a b c d e f (λa b=>K .nrm (oN a b))) (UL N a b c d e f _) (by kernel_rfl)
def UN N a b c d e (K:KT J):=vQ (λk=>cx.Z8 N a b c d e k) (Uy N a b c d e _) (cB λa b f c d e=>UM N a b f c d e K)
def UO N a b (K:KT J):kA N 31 (oN a b) Un K =
 cx.Z21 N a b (λc d=>K .ret (Us c d)):=by kernel_rfl
def UP N a b c d e (K:KT J):=vQ (λk=>cx.Z7 N a b c d e k) (UN N a b c d e _) (cV λa b=>UO N a b K)
def UQ N a e b c d (K:KT J):=vQ (λk=>cx.Z5 N a e b c d k) (Ux N a e b c d _) (cn λa f b c d=>UP N a f b c d K)
def UR N a b c d (K:KT J):=vQ (λk=>cx.Z3 N a b c d k) (Uw N a b c d _) (cn λe a b c d=>UQ N e a b c d K)
def US N b a (K:KT J):=vQ (λk=>cx.Z1 N b a k) (Uv N b a _) (d7 λa c d e=>UR N a c d e K)
def UT(h:cx.Spec):aw Tryz.prog 73 zH :=
 bA Tryz.func73 a8 Um (λN X K=>US N X.1 X.2.1 K) (by kernel_rfl) λX hb hp=>by obtain⟨a,b,_⟩:=X;obtain⟨N,h⟩:=h a b hb.1 hp;exact⟨N,Eq.trans (by kernel_rfl) (h N (Nat.le_refl N))⟩
def UU:aw Tryz.prog 73 zH:=UT cx.ok
def F8:ba:=⟨[⟨.int .i64,false,false⟩],[⟨.int .i64,false,false⟩]⟩
def zK:aQ:=⟨F8,none,λX=>((),((gq.g X.1),()))⟩
def F9:Gm:=aY
def UV:ao Tryz.prog F9:=ao.nil
def UW:ab:=⟨[],[],[],[],[]⟩
def UX(a:Int):St:=bu F8.ps (a,())
def UY(a:Int):St:=af [(2,xi a)] [] []
def UZ:ab:=⟨[2],[],[],[],[]⟩
def U0:Nat->Option ab:=aA [(1000000,UZ)]
abbrev U1{J:Type}(N n:Nat)(V:St)(l:ab)(K:KT J):Option J:=an F9 aZ U0 N (aT 99 (a7 Tryz.f106) n) .n V (ay (some l) K)
def U2 N a (K:KT J):U1 N 1 (UX a) UW K =
 gq.Z0 N a (λb=>K .ret (UY b)):=by kernel_rfl
def U3(h:gq.Spec):aw Tryz.prog 106 zK :=
 bA Tryz.func106 a8 UV (λN X K=>U2 N X.1 K) (by kernel_rfl) λX hb hp=>by obtain⟨a,_⟩:=X;obtain⟨N,h⟩:=h a;exact⟨N,Eq.trans (by kernel_rfl) (h N (Nat.le_refl N))⟩
def U4:aw Tryz.prog 106 zK:=U3 gq.ok
def Ga:ba:=⟨[⟨.int .i64,false,false⟩,⟨.int .i64,false,false⟩],[⟨.int .i64,false,false⟩]⟩
def zL:aQ:=⟨Ga,(some λX=>fa.P X.1 X.2.1),λX=>((),((fa.g X.1 X.2.1),()))⟩
def Gb:Gm:=aY
def U5:ao Tryz.prog Gb:=ao.nil
def U6:ab:=⟨[],[],[],[],[]⟩
def U7(a b:Int):St:=bu Ga.ps (a,(b,()))
def uo(a b:Int):St:=af [(0,xi a),(1,xi b)] [] []
def Gc:ab:=⟨[0,1],[],[],[],[]⟩
def q8(a:Int):St:=af [(0,xi a)] [] []
def zM:ab:=⟨[0],[],[],[],[]⟩
def U8(a:Int):St:=af [(4,xi a)] [] []
def U9:ab:=⟨[4],[],[],[],[]⟩
def Va:Nat->Option ab:=aA [(0,zM),(1000000,U9)]
abbrev zN{J:Type}(N n:Nat)(V:St)(l:ab)(K:KT J):Option J:=an Gb aZ Va N (aT 99 (a7 Tryz.f107) n) .n V (ay (some l) K)
def Vb N a b (K:KT J):zN N 2 (U7 a b) Gc K =
 fa.Z1 N a b (λa b=>K .nrm (uo a b)):=by kernel_rfl
def Vc N a b (K:KT J):zN N 17 (uo a b) Gc K =
 fa.Z5 N a b (λa b=>K .nrm (uo a b)) (λa=>K (.exit 0) (q8 a)):=by kernel_rfl
def Vd N (K:KT J):=tf K (fa.Z4L N (λa=>K (.exit 0) (q8 a))) (λa b k=>fa.Z5 N a b k (λa=>K (.exit 0) (q8 a))) (λF a b=>Vc N a b _) (by kernel_rfl)
def Ve N a b (K:KT J):=vL (uo a b) (Vd N (jK zM K) N a b) (by kernel_rfl)
def Vf N a b (K:KT J):=vB 0 zM K (fa.Z3 N a b (λa=>K .nrm (q8 a))) (Ve N a b _) (by kernel_rfl)
def Vg N a (K:KT J):zN N 7 (q8 a) U6 K =
 fa.Z6 N a (λb=>K .ret (U8 b)):=by kernel_rfl
def Vh N a b (K:KT J):=vQ (λk=>fa.Z3 N a b k) (Vf N a b _) (funext λa=>Vg N a K)
def Vi N a b (K:KT J):=vQ (λk=>fa.Z1 N a b k) (Vb N a b _) (cV λa b=>Vh N a b K)
def Vj(h:fa.Spec):aw Tryz.prog 107 zL :=
 bA Tryz.func107 a8 U5 (λN X K=>Vi N X.1 X.2.1 K) (by kernel_rfl) λX hb hp=>by obtain⟨a,b,_⟩:=X;obtain⟨N,h⟩:=h a b hp;exact⟨N,Eq.trans (by kernel_rfl) (h N (Nat.le_refl N))⟩
def Vk:aw Tryz.prog 107 zL:=Vj fa.ok
def Gd:ba:=⟨[⟨.pair (.int .i64) (.pair (.int .i64) (.sl 3 (.int .i64))),true,false⟩],[⟨.sl 3 (.int .i64),false,false⟩,⟨.bool,false,false⟩]⟩
def zO:aQ:=⟨Gd,(some λX=>aV.P X.1),λX=>((),((aV.g X.1).1,((aV.g X.1).2,())))⟩
def Ge:Gm:=aI (aI (aI (aI aY 73 zH) 105 ni) 106 zK) 107 zL
def Vl:ao Tryz.prog Ge:=((((ao.nil).add UU (by kernel_rfl)).add qY (by kernel_rfl)).add U4 (by kernel_rfl)).add Vk (by kernel_rfl)
def Vm:ab:=⟨[],[],[],[],[]⟩
def Vn(a:MT):St:=bu Gd.ps (a,())
def Gf(a b:Int)(c:LI):St:=af [(1,xb 1)] [(1,(27,[yi a,yi b,.sn 3 tI c none]))] []
def Vo:ab:=⟨[1],[1],[],[],[]⟩
def lG(a:LI)(b c:Int)(d:LI):St:=af [(1,xb 1),(4,xo 1000256)] [(1,(27,[yi b,yi c,.sn 3 tI d none]))] [(1000256,(⟨3,.int .i64,a,true,false⟩:ae))]
def up:ab:=⟨[1,4],[1],[],[],[(⟨false,4,0⟩,1000256)]⟩
def fX(a:LI)(b c d:Int)(e:LI):St:=af [(1,xb 1),(4,xo 1000256),(5,xi b)] [(1,(27,[yi c,yi d,.sn 3 tI e none]))] [(1000256,(⟨3,.int .i64,a,true,false⟩:ae))]
def kB:ab:=⟨[1,4,5],[1],[],[],[(⟨false,4,0⟩,1000256)]⟩
def kC(a b c:LI)(d e f:Int)(g:LI):St:=af [(1,xb 1),(4,xo 1000256),(5,xi d),(6,xo 1000384),(7,xo 1000448)] [(1,(27,[yi e,yi f,.sn 3 tI g none]))] [(1000256,(⟨3,.int .i64,a,true,false⟩:ae)),(1000384,(⟨3,.int .i64,b,true,false⟩:ae)),(1000448,(⟨3,.int .i64,c,true,false⟩:ae))]
def q9:ab:=⟨[1,4,5,6,7],[1],[],[],[(⟨false,4,0⟩,1000256),(⟨false,6,0⟩,1000384),(⟨false,7,0⟩,1000448)]⟩
def uq(a b c:LI)(d e f g:Int)(h:LI):St:=af [(1,xb 1),(4,xo 1000256),(5,xi d),(6,xo 1000384),(7,xo 1000448),(8,xi e)] [(1,(27,[yi f,yi g,.sn 3 tI h none]))] [(1000256,(⟨3,.int .i64,a,true,false⟩:ae)),(1000384,(⟨3,.int .i64,b,true,false⟩:ae)),(1000448,(⟨3,.int .i64,c,true,false⟩:ae))]
def Gg:ab:=⟨[1,4,5,6,7,8],[1],[],[],[(⟨false,4,0⟩,1000256),(⟨false,6,0⟩,1000384),(⟨false,7,0⟩,1000448)]⟩
def Gh(a b c:LI)(d e f g:Int)(h:LI):St:=af [(1,xb 1),(4,xo 1000256),(5,xi d),(6,xo 1000384),(7,xo 1000448),(9,xi e)] [(1,(27,[yi f,yi g,.sn 3 tI h none]))] [(1000256,(⟨3,.int .i64,a,true,false⟩:ae)),(1000384,(⟨3,.int .i64,b,true,false⟩:ae)),(1000448,(⟨3,.int .i64,c,true,false⟩:ae))]
def Vp:ab:=⟨[1,4,5,6,7,9],[1],[],[],[(⟨false,4,0⟩,1000256),(⟨false,6,0⟩,1000384),(⟨false,7,0⟩,1000448)]⟩
def ur(a b c:LI)(d e f g h:Int)(i:LI):St:=af [(1,xb 1),(4,xo 1000256),(5,xi d),(6,xo 1000384),(7,xo 1000448),(9,xi e),(10,xi f)] [(1,(27,[yi g,yi h,.sn 3 tI i none]))] [(1000256,(⟨3,.int .i64,a,true,false⟩:ae)),(1000384,(⟨3,.int .i64,b,true,false⟩:ae)),(1000448,(⟨3,.int .i64,c,true,false⟩:ae))]
def Gi:ab:=⟨[1,4,5,6,7,9,10],[1],[],[],[(⟨false,4,0⟩,1000256),(⟨false,6,0⟩,1000384),(⟨false,7,0⟩,1000448)]⟩
def ra(a b:LI)(c d e f:Int)(g:LI):St:=af [(1,xb 1),(4,xo 1000256),(5,xi c),(6,xo 1000384),(9,xi d)] [(1,(27,[yi e,yi f,.sn 3 tI g none]))] [(1000256,(⟨3,.int .i64,a,true,false⟩:ae)),(1000384,(⟨3,.int .i64,b,true,false⟩:ae))]
def zQ:ab:=⟨[1,4,5,6,9],[1],[],[],[(⟨false,4,0⟩,1000256),(⟨false,6,0⟩,1000384)]⟩
def ut(a b:LI)(c d e f g:Int)(h:LI):St:=af [(1,xb 1),(4,xo 1000256),(5,xi c),(6,xo 1000384),(9,xi d),(11,xi e)] [(1,(27,[yi f,yi g,.sn 3 tI h none]))] [(1000256,(⟨3,.int .i64,a,true,false⟩:ae)),(1000384,(⟨3,.int .i64,b,true,false⟩:ae))]
def Gj:ab:=⟨[1,4,5,6,9,11],[1],[],[],[(⟨false,4,0⟩,1000256),(⟨false,6,0⟩,1000384)]⟩
def iL(a:LI)(b c d:Int)(e:LI):St:=af [(1,xb 1),(4,xo 1000256),(12,xi b)] [(1,(27,[yi c,yi d,.sn 3 tI e none]))] [(1000256,(⟨3,.int .i64,a,true,false⟩:ae))]
def lH:ab:=⟨[1,4,12],[1],[],[],[(⟨false,4,0⟩,1000256)]⟩
def uu(a:LI)(b c d e:Int)(f:LI):St:=af [(1,xb 1),(4,xo 1000256),(12,xi b),(13,xi c)] [(1,(27,[yi d,yi e,.sn 3 tI f none]))] [(1000256,(⟨3,.int .i64,a,true,false⟩:ae))]
def Gk:ab:=⟨[1,4,12,13],[1],[],[],[(⟨false,4,0⟩,1000256)]⟩
def oO(a:LI):St:=af [(4,xo 1000256)] [] [(1000256,(⟨3,.int .i64,a,true,false⟩:ae))]
def zR:ab:=⟨[4],[],[],[],[(⟨false,4,0⟩,1000256)]⟩
def jm(a:LI)(b:Bool):St:=af [(2,xo 1000128),(3,xB b)] [] [(1000128,(⟨3,.int .i64,a,true,false⟩:ae))]
def Vq:ab:=⟨[2,3],[],[⟨⟨false,2,0⟩,30000000,3,.int .i64,true⟩],[],[(⟨false,2,0⟩,1000128)]⟩
def Vr:Nat->Option ab:=aA [(2,q9),(4,zQ),(6,kB),(1,kB),(0,up),(10,lH),(9,lH),(8,zR),(1000000,Vq)]
abbrev eG{J:Type}(N n:Nat)(V:St)(l:ab)(K:KT J):Option J:=an Ge aZ Vr N (aT 99 (a7 Tryz.f66) n) .n V (ay (some l) K)
def Vs N a (K:KT J):eG N 2 (Vn a) Vo K =
 aV.Z1 N a (λb c d=>K .nrm (Gf b c d)):=by kernel_rfl
def Vt N a b c (K:KT J):eG N 5 (Gf a b c) up K =
 aV.Z3 N a b c (λd a b c=>K .nrm (lG d a b c)):=by kernel_rfl
def Vu N a b c d (K:KT J):eG N 19 (lG a b c d) kB K =
 aV.Z6 N a b c d (λa e b c d=>K .nrm (fX a e b c d)):=by kernel_rfl
def Vv N a e b c d (K:KT J):eG N 139 (fX a e b c d) kB K =
 aV.Z10 N a e b c d (λa e b c d=>K .nrm (fX a e b c d)) (λa b c d=>K (.exit 0) (lG a b c d)):=by kernel_rfl
def Vw N a b c d e (K:KT J):eG N 1099 (fX a b c d e) kB K =
 aV.Z14 N a b c d e (λa b c d e=>K .nrm (fX a b c d e)) (λa b c d e=>K (.exit 1) (fX a b c d e)):=by kernel_rfl
def Vx N a b c d e (K:KT J):eG N 2635 (fX a b c d e) q9 K =
 aV.Z16 N a b c d e (λa f g b c d e=>K .nrm (kC a f g b c d e)):=by kernel_rfl
def Vy N a b c d e f g (K:KT J):eG N 5707 (kC a b c d e f g) q9 K =
 aV.Z18 N a b c d e f g (λa b c d e f g=>K .nrm (kC a b c d e f g)):=by kernel_rfl
def Vz N a b c d e f g (K:KT J):eG N 20043 (kC a b c d e f g) Gg K =
 aV.Z21 N a b c d e f g (λa b c d h e f g=>K .nrm (uq a b c d h e f g)):=by kernel_rfl
def VA N a b c d h e f g (K:KT J):eG N 77387 (uq a b c d h e f g) Gg K =
 aV.Z24 N a b c d h e f g (λa b c d h e f g=>K .nrm (uq a b c d h e f g)) (λa b c d e f g=>K (.exit 2) (kC a b c d e f g)):=by kernel_rfl
def VB N (K:KT J):=jB K (aV.Z23L N (λa b c d e f g=>K (.exit 2) (kC a b c d e f g))) (λa b c d h e f g k=>aV.Z24 N a b c d h e f g k (λa b c d e f g=>K (.exit 2) (kC a b c d e f g))) (λF a b c d h e f g=>VA N a b c d h e f g _) (by kernel_rfl)
def VC N a b c d e f g h (K:KT J):=vL (uq a b c d e f g h) (VB N (jK q9 K) N a b c d e f g h) (by kernel_rfl)
def VD N a b c d h e f g (K:KT J):=vB 2 q9 K (aV.Z22 N a b c d h e f g (λa b c d e f g=>K .nrm (kC a b c d e f g))) (VC N a b c d h e f g _) (by kernel_rfl)
def VE N a b c d e f g (K:KT J):=vQ (λk=>aV.Z21 N a b c d e f g k) (Vz N a b c d e f g _) (du λa b c d h e f g=>VD N a b c d h e f g K)
def VF N a b c d e f g (K:KT J):eG N 24139 (kC a b c d e f g) Vp K =
 aV.Z26 N a b c d e f g (λa b c d h e f g=>K .nrm (Gh a b c d h e f g)):=by kernel_rfl
def VG N a b c d e f g h (K:KT J):eG N 81483 (Gh a b c d e f g h) Gi K =
 aV.Z29 N a b c d e f g h (λa b c d e i f g h=>K .nrm (ur a b c d e i f g h)):=by kernel_rfl
def VH N a b h c d i e f g (K:KT J):eG N 310859 (ur a b h c d i e f g) Gi K =
 aV.Z32 N a b h c d i e f g (λa b h c d i e f g=>K .nrm (ur a b h c d i e f g)) (λa b c d e f g=>K (.exit 4) (ra a b c d e f g)):=by kernel_rfl
def VI N (K:KT J):=tg K (aV.Z31L N (λa b c d e f g=>K (.exit 4) (ra a b c d e f g))) (λa b h c d i e f g k=>aV.Z32 N a b h c d i e f g k (λa b c d e f g=>K (.exit 4) (ra a b c d e f g))) (λF a b h c d i e f g=>VH N a b h c d i e f g _) (by kernel_rfl)
def VJ N a b c d e f g h i (K:KT J):=vL (ur a b c d e f g h i) (VI N (jK zQ K) N a b c d e f g h i) (by kernel_rfl)
def VK N a b h c d i e f g (K:KT J):=vB 4 zQ K (aV.Z30 N a b h c d i e f g (λa b c d e f g=>K .nrm (ra a b c d e f g))) (VJ N a b h c d i e f g _) (by kernel_rfl)
def VL N a b c d e f g h (K:KT J):=vQ (λk=>aV.Z29 N a b c d e f g h k) (VG N a b c d e f g h _) (dT λa b c d e i f g h=>VK N a b c d e i f g h K)
def VM N a b c d e f g (K:KT J):eG N 97867 (ra a b c d e f g) Gj K =
 aV.Z34 N a b c d e f g (λa b c d h e f g=>K .nrm (ut a b c d h e f g)):=by kernel_rfl
def VN N a f b g h c d e (K:KT J):eG N 327243 (ut a f b g h c d e) Gj K =
 aV.Z37 N a f b g h c d e (λa f b g h c d e=>K .nrm (ut a f b g h c d e)) (λa b c d e=>K (.exit 6) (fX a b c d e)):=by kernel_rfl
def VO N (K:KT J):=jB K (aV.Z36L N (λa b c d e=>K (.exit 6) (fX a b c d e))) (λa f b g h c d e k=>aV.Z37 N a f b g h c d e k (λa b c d e=>K (.exit 6) (fX a b c d e))) (λF a f b g h c d e=>VN N a f b g h c d e _) (by kernel_rfl)
def VP N a b c d e f g h (K:KT J):=vL (ut a b c d e f g h) (VO N (jK kB K) N a b c d e f g h) (by kernel_rfl)
def VQ N a f b g h c d e (K:KT J):=vB 6 kB K (aV.Z35 N a f b g h c d e (λa b c d e=>K .nrm (fX a b c d e))) (VP N a f b g h c d e _) (by kernel_rfl)
def VR N a b c d e f g (K:KT J):=vQ (λk=>aV.Z34 N a b c d e f g k) (VM N a b c d e f g _) (du λa b c d h e f g=>VQ N a b c d h e f g K)
def VS N a b h c d e f g (K:KT J):=vQ (λk=>aV.Z28 N a b h c d e f g k) (VL N a b h c d e f g _) (eA λa b c d e f g=>VR N a b c d e f g K)
def VT N a b c d e f g (K:KT J):=vQ (λk=>aV.Z26 N a b c d e f g k) (VF N a b c d e f g _) (du λa b c d h e f g=>VS N a b c d h e f g K)
def VU N a b c d e f g (K:KT J):=vQ (λk=>aV.Z20 N a b c d e f g k) (VE N a b c d e f g _) (eA λa b c d e f g=>VT N a b c d e f g K)
def VV N a b c d e f g (K:KT J):=vQ (λk=>aV.Z18 N a b c d e f g k) (Vy N a b c d e f g _) (eA λa b c d e f g=>VU N a b c d e f g K)
def VW N a b c d e (K:KT J):=vQ (λk=>aV.Z16 N a b c d e k) (Vx N a b c d e _) (eA λa f g b c d e=>VV N a f g b c d e K)
def VX N a b c d e (K:KT J):=vQ (λk=>aV.Z14 N a b c d e k (λa b c d e=>K (.exit 1) (fX a b c d e))) (Vw N a b c d e _) (cn λa b c d e=>VW N a b c d e K)
def VY N a b c d e (K:KT J):=vB 1 kB K (aV.Z12 N a b c d e (λa b c d e=>K .nrm (fX a b c d e))) (VX N a b c d e _) (by kernel_rfl)
def VZ N a b c d e (K:KT J):eG N 459 (fX a b c d e) kB K =
 aV.Z38 N a b c d e (λa b c d e=>K .nrm (fX a b c d e)):=by kernel_rfl
def V0 N a b c d e (K:KT J):=vQ (λk=>aV.Z12 N a b c d e k) (VY N a b c d e _) (cn λa b c d e=>VZ N a b c d e K)
def V1 N a e b c d (K:KT J):=vQ (λk=>aV.Z10 N a e b c d k (λa b c d=>K (.exit 0) (lG a b c d))) (Vv N a e b c d _) (cn λa e b c d=>V0 N a e b c d K)
def V2 N (K:KT J):=mO K (aV.Z8L N (λa b c d=>K (.exit 0) (lG a b c d))) (λa e b c d k=>aV.Z9 N a e b c d k (λa b c d=>K (.exit 0) (lG a b c d))) (λF a e b c d=>V1 N a e b c d _) (by kernel_rfl)
def V3 N a b c d e (K:KT J):=vL (fX a b c d e) (V2 N (jK up K) N a b c d e) (by kernel_rfl)
def V4 N a e b c d (K:KT J):=vB 0 up K (aV.Z7 N a e b c d (λa b c d=>K .nrm (lG a b c d))) (V3 N a e b c d _) (by kernel_rfl)
def V5 N a b c d (K:KT J):=vQ (λk=>aV.Z6 N a b c d k) (Vu N a b c d _) (cn λa e b c d=>V4 N a e b c d K)
def V6 N a b c d (K:KT J):eG N 39 (lG a b c d) lH K =
 aV.Z41 N a b c d (λa e b c d=>K .nrm (iL a e b c d)):=by kernel_rfl
def V7 N a b c d e (K:KT J):eG N 279 (iL a b c d e) lH K =
 aV.Z45 N a b c d e (λa b c d e=>K .nrm (iL a b c d e)) (λa=>K (.exit 8) (oO a)):=by kernel_rfl
def V8 N a b c d e (K:KT J):eG N 2199 (iL a b c d e) Gk K =
 aV.Z49 N a b c d e (λa b f c d e=>K .nrm (uu a b f c d e)):=by kernel_rfl
def V9 N a b f c d e (K:KT J):eG N 9367 (uu a b f c d e) Gk K =
 aV.Z52 N a b f c d e (λa b f c d e=>K .nrm (uu a b f c d e)) (λa b c d e=>K (.exit 10) (iL a b c d e)) (λg h=>K .ret (jm g h)):=by kernel_rfl
def Wa N (K:KT J):=kf K (aV.Z51L N (λa b c d e=>K (.exit 10) (iL a b c d e)) (λf g=>K .ret (jm f g))) (λa b h c d e k=>aV.Z52 N a b h c d e k (λa b c d e=>K (.exit 10) (iL a b c d e)) (λf g=>K .ret (jm f g))) (λF a b h c d e=>V9 N a b h c d e _) (by kernel_rfl)
def Wb N a b c d e f (K:KT J):=vL (uu a b c d e f) (Wa N (jK lH K) N a b c d e f) (by kernel_rfl)
def Wc N a b f c d e (K:KT J):=vB 10 lH K (aV.Z50 N a b f c d e (λa b c d e=>K .nrm (iL a b c d e)) (λg h=>K .ret (jm g h))) (Wb N a b f c d e _) (by kernel_rfl)
def Wd N a b c d e (K:KT J):=vQ (λk=>aV.Z49 N a b c d e k) (V8 N a b c d e _) (cB λa b f c d e=>Wc N a b f c d e K)
def We N a b c d e (K:KT J):=vB 9 lH K (aV.Z47 N a b c d e (λa b c d e=>K .nrm (iL a b c d e)) (λf g=>K .ret (jm f g))) (Wd N a b c d e _) (by kernel_rfl)
def Wf N a b c d e (K:KT J):eG N 919 (iL a b c d e) lH K =
 aV.Z53 N a b c d e (λa b c d e=>K .nrm (iL a b c d e)):=by kernel_rfl
def Wg N a b c d e (K:KT J):=vQ (λk=>aV.Z47 N a b c d e k (λf g=>K .ret (jm f g))) (We N a b c d e _) (cn λa b c d e=>Wf N a b c d e K)
def Wh N a b c d e (K:KT J):=vQ (λk=>aV.Z45 N a b c d e k (λa=>K (.exit 8) (oO a))) (V7 N a b c d e _) (cn λa b c d e=>Wg N a b c d e K)
def Wi N (K:KT J):=mO K (aV.Z43L N (λa=>K (.exit 8) (oO a)) (λb c=>K .ret (jm b c))) (λa d e f g k=>aV.Z44 N a d e f g k (λa=>K (.exit 8) (oO a)) (λb c=>K .ret (jm b c))) (λF a d e f g=>Wh N a d e f g _) (by kernel_rfl)
def Wj N a b c d e (K:KT J):=vL (iL a b c d e) (Wi N (jK zR K) N a b c d e) (by kernel_rfl)
def Wk N a b c d e (K:KT J):=vB 8 zR K (aV.Z42 N a b c d e (λa=>K .nrm (oO a)) (λf g=>K .ret (jm f g))) (Wj N a b c d e _) (by kernel_rfl)
def Wl N a b c d (K:KT J):=vQ (λk=>aV.Z41 N a b c d k) (V6 N a b c d _) (cn λa e b c d=>Wk N a e b c d K)
def Wm N a (K:KT J):eG N 31 (oO a) Vm K =
 aV.Z54 N a (λb c=>K .ret (jm b c)):=by kernel_rfl
def Wn N a b c d (K:KT J):=vQ (λk=>aV.Z40 N a b c d k (λe f=>K .ret (jm e f))) (Wl N a b c d _) (funext λa=>Wm N a K)
def Wo N a b c d (K:KT J):=vQ (λk=>aV.Z5 N a b c d k) (V5 N a b c d _) (d7 λa b c d=>Wn N a b c d K)
def Wp N a b c (K:KT J):=vQ (λk=>aV.Z3 N a b c k) (Vt N a b c _) (d7 λd a b c=>Wo N d a b c K)
def Wq N a (K:KT J):=vQ (λk=>aV.Z1 N a k) (Vs N a _) (cF λb c d=>Wp N b c d K)
def Wr(h:aV.Spec):aw Tryz.prog 66 zO :=
 bA Tryz.func66 a8 Vl (λN X K=>Wq N X.1 K) (by kernel_rfl) λX hb hp=>by obtain⟨a,_⟩:=X;obtain⟨N,h⟩:=h a hb.1 hp;exact⟨N,Eq.trans (by kernel_rfl) (h N (Nat.le_refl N))⟩
def Ws:aw Tryz.prog 66 zO:=Wr aV.ok
def Gl:ba:=⟨[⟨.pair (.int .i64) (.pair (.int .i64) (.sl 3 (.int .i64))),true,false⟩],[⟨.bool,false,false⟩]⟩
def uv:aQ:=⟨Gl,none,λX=>((),((jq.g X.1),()))⟩
def Gn:Gm:=aI (aI aY 65 qZ) 66 zO
def Wt:ao Tryz.prog Gn:=((ao.nil).add zF (by kernel_rfl)).add Ws (by kernel_rfl)
def Wu:ab:=⟨[],[],[],[],[]⟩
def Wv(a:MT):St:=bu Gl.ps (a,())
def Ww(a:Bool):St:=af [(2,xB a)] [] []
def Wx:ab:=⟨[2],[],[],[],[]⟩
def Wy:Nat->Option ab:=aA [(1000000,Wx)]
abbrev Wz{J:Type}(N n:Nat)(V:St)(l:ab)(K:KT J):Option J:=an Gn aZ Wy N (aT 99 (a7 Tryz.f25) n) .n V (ay (some l) K)
def WA N a (K:KT J):Wz N 1 (Wv a) Wu K =
 jq.Z0 N a (λb=>K .ret (Ww b)):=by kernel_rfl
def WB(h:jq.Spec):aw Tryz.prog 25 uv :=
 bA Tryz.func25 a8 Wt (λN X K=>WA N X.1 K) (by kernel_rfl) λX hb hp=>by obtain⟨a,_⟩:=X;obtain⟨N,h⟩:=h a hb.1;exact⟨N,Eq.trans (by kernel_rfl) (h N (Nat.le_refl N))⟩
def Gp:aw Tryz.prog 25 uv:=WB jq.ok
def Gq:ba:=⟨[⟨.sl 3 (.int .i64),false,false⟩],[⟨.sl 3 (.int .i64),false,false⟩]⟩
def rb:aQ:=⟨Gq,(some λX=>dX.P X.1),λX=>((),((dX.g X.1),()))⟩
def Gr:Gm:=aY
def WC:ao Tryz.prog Gr:=ao.nil
def WD:ab:=⟨[],[],[],[],[]⟩
def WE(a:LI):St:=bu Gq.ps (a,())
def WF(a:LI):St:=af [(2,xo 1000128)] [] [(1000128,(⟨3,.int .i64,a,true,false⟩:ae))]
def WG:ab:=⟨[2],[],[],[],[(⟨false,2,0⟩,1000128)]⟩
def WH:Nat->Option ab:=aA [(1000000,WG)]
abbrev WI{J:Type}(N n:Nat)(V:St)(l:ab)(K:KT J):Option J:=an Gr aZ WH N (aT 99 (a7 Tryz.f46) n) .n V (ay (some l) K)
def WJ N a (K:KT J):WI N 1 (WE a) WD K =
 dX.Z0 N a (λb=>K .ret (WF b)):=by kernel_rfl
def WK(h:dX.Spec):aw Tryz.prog 46 rb :=
 bA Tryz.func46 a8 WC (λN X K=>WJ N X.1 K) (by kernel_rfl) λX hb hp=>by obtain⟨a,_⟩:=X;obtain⟨N,h⟩:=h a hb.1 hp;exact⟨N,Eq.trans (by kernel_rfl) (h N (Nat.le_refl N))⟩
def zS:aw Tryz.prog 46 rb:=WK dX.ok
def Gs:ba:=⟨[⟨.pair (.int .i64) (.pair (.int .i64) (.sl 3 (.int .i64))),true,false⟩],[⟨.pair (.int .i64) (.pair (.int .i64) (.sl 3 (.int .i64))),true,false⟩]⟩
def rc:aQ:=⟨Gs,(some λX=>dY.P X.1),λX=>((),((dY.g X.1),()))⟩
def Gt:Gm:=aI aY 46 rb
def WL:ao Tryz.prog Gt:=(ao.nil).add zS (by kernel_rfl)
def WM:ab:=⟨[],[],[],[],[]⟩
def WN(a:MT):St:=bu Gs.ps (a,())
def WO(a:LI)(b c:Int):St:=af [(2,xb 2)] [(2,(27,[yi b,yi c,.own 20000130]))] [(20000130,(⟨3,.int .i64,a,true,false⟩:ae))]
def WP:ab:=⟨[2],[2],[],[],[(⟨true,2,2⟩,20000130)]⟩
def WQ:Nat->Option ab:=aA [(1000000,WP)]
abbrev WR{J:Type}(N n:Nat)(V:St)(l:ab)(K:KT J):Option J:=an Gt aZ WQ N (aT 99 (a7 Tryz.f70) n) .n V (ay (some l) K)
def WS N a (K:KT J):WR N 1 (WN a) WM K =
 dY.Z0 N a (λb c d=>K .ret (WO b c d)):=by kernel_rfl
def WT(h:dY.Spec):aw Tryz.prog 70 rc :=
 bA Tryz.func70 a8 WL (λN X K=>WS N X.1 K) (by kernel_rfl) λX hb hp=>by obtain⟨a,_⟩:=X;obtain⟨N,h⟩:=h a hb.1 hp;exact⟨N,Eq.trans (by kernel_rfl) (h N (Nat.le_refl N))⟩
def zT:aw Tryz.prog 70 rc:=WT dY.ok
def Gu:ba:=⟨[⟨.pair (.int .i64) (.pair (.int .i64) (.sl 3 (.int .i64))),true,false⟩,⟨.int .i64,false,false⟩],[⟨.pair (.int .i64) (.pair (.int .i64) (.sl 3 (.int .i64))),true,false⟩]⟩
def uw:aQ:=⟨Gu,(some λX=>bC.P X.1 X.2.1),λX=>((),((bC.g X.1 X.2.1),()))⟩
def Gv:Gm:=aI (aI aY 70 rc) 105 ni
def WU:ao Tryz.prog Gv:=((ao.nil).add zT (by kernel_rfl)).add qY (by kernel_rfl)
def WV:ab:=⟨[],[],[],[],[]⟩
def WW(a:MT)(b:Int):St:=bu Gu.ps (a,(b,()))
def Gw(a b c:Int)(d:LI)(e f:Int):St:=af [(1,xi a),(2,xb 2),(4,xb 4)] [(2,(27,[yi b,yi c,.sn 3 tI d none])),(4,(27,[yi e,yi f,.nil]))] []
def WX:ab:=⟨[1,2,4],[2,4],[],[],[]⟩
def Gx(a:LI)(b c d:Int)(e:LI)(f g h i:Int):St:=af [(1,xi b),(2,xb 2),(4,xb 4),(5,xb 5)] [(2,(27,[yi c,yi d,.sn 3 tI e none])),(4,(27,[yi f,yi g,.nil])),(5,(27,[yi h,yi i,.own 20000322]))] [(20000322,(⟨3,.int .i64,a,true,false⟩:ae))]
def WY:ab:=⟨[1,2,4,5],[2,4,5],[],[],[(⟨true,5,2⟩,20000322)]⟩
def ii(a:LI)(b c d e:Int)(f:LI)(g h i j:Int):St:=af [(1,xi b),(2,xb 2),(4,xb 4),(5,xb 5),(6,xi c)] [(2,(27,[yi d,yi e,.sn 3 tI f none])),(4,(27,[yi g,yi h,.nil])),(5,(27,[yi i,yi j,.own 20000322]))] [(20000322,(⟨3,.int .i64,a,true,false⟩:ae))]
def lI:ab:=⟨[1,2,4,5,6],[2,4,5],[],[],[(⟨true,5,2⟩,20000322)]⟩
def jQ(a:LI)(b c d e f:Int)(g:LI)(h i j l:Int):St:=af [(1,xi b),(2,xb 2),(4,xb 4),(5,xb 5),(6,xi c),(7,xi d)] [(2,(27,[yi e,yi f,.sn 3 tI g none])),(4,(27,[yi h,yi i,.nil])),(5,(27,[yi j,yi l,.own 20000322]))] [(20000322,(⟨3,.int .i64,a,true,false⟩:ae))]
def lJ:ab:=⟨[1,2,4,5,6,7],[2,4,5],[],[],[(⟨true,5,2⟩,20000322)]⟩
def Gy(a:LI)(b c d e f g:Int)(h:LI)(i j l m:Int):St:=af [(1,xi b),(2,xb 2),(4,xb 4),(5,xb 5),(6,xi c),(7,xi d),(8,xi e)] [(2,(27,[yi f,yi g,.sn 3 tI h none])),(4,(27,[yi i,yi j,.nil])),(5,(27,[yi l,yi m,.own 20000322]))] [(20000322,(⟨3,.int .i64,a,true,false⟩:ae))]
def WZ:ab:=⟨[1,2,4,5,6,7,8],[2,4,5],[],[],[(⟨true,5,2⟩,20000322)]⟩
def Gz(a:LI)(b c d e f g h:Int)(i:LI)(j l m o:Int):St:=af [(1,xi b),(2,xb 2),(4,xb 4),(5,xb 5),(6,xi c),(7,xi d),(8,xi e),(9,xi f)] [(2,(27,[yi g,yi h,.sn 3 tI i none])),(4,(27,[yi j,yi l,.nil])),(5,(27,[yi m,yi o,.own 20000322]))] [(20000322,(⟨3,.int .i64,a,true,false⟩:ae))]
def W0:ab:=⟨[1,2,4,5,6,7,8,9],[2,4,5],[],[],[(⟨true,5,2⟩,20000322)]⟩
def GA(a:LI)(b c d e f:Int)(g:Bool)(h i:Int)(j:LI)(l m o p:Int):St:=af [(1,xi b),(2,xb 2),(4,xb 4),(5,xb 5),(6,xi c),(7,xi d),(8,xi e),(9,xi f),(32,xB g)] [(2,(27,[yi h,yi i,.sn 3 tI j none])),(4,(27,[yi l,yi m,.nil])),(5,(27,[yi o,yi p,.own 20000322]))] [(20000322,(⟨3,.int .i64,a,true,false⟩:ae))]
def W3:ab:=⟨[1,2,4,5,6,7,8,9,32],[2,4,5],[],[],[(⟨true,5,2⟩,20000322)]⟩
def oP(a:LI)(b c d e:Int):St:=af [(4,xb 4),(5,xb 5)] [(4,(27,[yi b,yi c,.nil])),(5,(27,[yi d,yi e,.own 20000322]))] [(20000322,(⟨3,.int .i64,a,true,false⟩:ae))]
def zU:ab:=⟨[4,5],[4,5],[],[],[(⟨true,5,2⟩,20000322)]⟩
def W4(a:LI)(b c:Int):St:=af [(4,xb 4)] [(4,(27,[yi b,yi c,.own 20000258]))] [(20000258,(⟨3,.int .i64,a,true,false⟩:ae))]
def W5:ab:=⟨[4],[4],[],[],[(⟨true,4,2⟩,20000258)]⟩
def W6:Nat->Option ab:=aA [(4,lJ),(3,lJ),(2,lI),(1,lI),(0,zU),(1000000,W5)]
abbrev ij{J:Type}(N n:Nat)(V:St)(l:ab)(K:KT J):Option J:=an Gv aZ W6 N (aT 99 (a7 Tryz.f87) n) .n V (ay (some l) K)
def W7 N b a (K:KT J):ij N 2 (WW b a) WX K =
 bC.Z1 N b a (λa c d e f g=>K .nrm (Gw a c d e f g)):=by kernel_rfl
def W8 N a b c d e f (K:KT J):ij N 5 (Gw a b c d e f) WY K =
 bC.Z3 N a b c d e f (λg a b c d e f h i=>K .nrm (Gx g a b c d e f h i)):=by kernel_rfl
def W9 N a b c d e f g h i (K:KT J):ij N 19 (Gx a b c d e f g h i) lI K =
 bC.Z6 N a b c d e f g h i (λa b j c d e f g h i=>K .nrm (ii a b j c d e f g h i)):=by kernel_rfl
def Xa N a f g h i j b c d e (K:KT J):ij N 139 (ii a f g h i j b c d e) lI K =
 bC.Z10 N a f g h i j b c d e (λa f g h i j b c d e=>K .nrm (ii a f g h i j b c d e)) (λa b c d e=>K (.exit 0) (oP a b c d e)):=by kernel_rfl
def Xb N a b c d e f g h i j (K:KT J):ij N 1099 (ii a b c d e f g h i j) lJ K =
 bC.Z14 N a b c d e f g h i j (λa b c l d e f g h i j=>K .nrm (jQ a b c l d e f g h i j)):=by kernel_rfl
def Xc N a b c l d e f g h i j (K:KT J):ij N 8779 (jQ a b c l d e f g h i j) lJ K =
 bC.Z18 N a b c l d e f g h i j (λa b c l d e f g h i j=>K .nrm (jQ a b c l d e f g h i j)) (λa b c d e f g h i j=>K (.exit 2) (ii a b c d e f g h i j)):=by kernel_rfl
def Xd N a b c d e f g h i j l (K:KT J):ij N 70219 (jQ a b c d e f g h i j l) WZ K =
 bC.Z22 N a b c d e f g h i j l (λa b c d m e f g h i j l=>K .nrm (Gy a b c d m e f g h i j l)):=by kernel_rfl
def Xe N a b c d e f g h i j l m (K:KT J):ij N 168523 (Gy a b c d e f g h i j l m) W0 K =
 bC.Z24 N a b c d e f g h i j l m (λa b c d e o f g h i j l m=>K .nrm (Gz a b c d e o f g h i j l m)):=by kernel_rfl
def Xf N a b c d e f g h i j l m o (K:KT J):ij N 627275 (Gz a b c d e f g h i j l m o) W3 K =
 bC.Z27 N a b c d e f g h i j l m o (λa b c d e f p g h i j l m o=>K .nrm (GA a b c d e f p g h i j l m o)):=by kernel_rfl
def Xg N a b c d m o p e f g h i j l (K:KT J):ij N 889419 (GA a b c d m o p e f g h i j l) lJ K =
 bC.Z28 N a b c d m o p e f g h i j l (λa b c d e f g h i j l=>K .nrm (jQ a b c d e f g h i j l)):=by kernel_rfl
def Xh N a b c d e f g h i j l m o (K:KT J):=vQ (λk=>bC.Z27 N a b c d e f g h i j l m o k) (Xf N a b c d e f g h i j l m o _) (td λa b c d e f p g h i j l m o=>Xg N a b c d e f p g h i j l m o K)
def Xi N a b c d m o e f g h i j l (K:KT J):=vB 4 lJ K (bC.Z25 N a b c d m o e f g h i j l (λa b c d e f g h i j l=>K .nrm (jQ a b c d e f g h i j l))) (Xh N a b c d m o e f g h i j l _) (by kernel_rfl)
def Xj N a b c d e f g h i j l m (K:KT J):=vQ (λk=>bC.Z24 N a b c d e f g h i j l m k) (Xe N a b c d e f g h i j l m _) (qw λa b c d e o f g h i j l m=>Xi N a b c d e o f g h i j l m K)
def Xk N a b c d e f g h i j l (K:KT J):=vQ (λk=>bC.Z22 N a b c d e f g h i j l k) (Xd N a b c d e f g h i j l _) (og λa b c d m e f g h i j l=>Xj N a b c d m e f g h i j l K)
def Xl N a b c d e f g h i j l (K:KT J):=vB 3 lJ K (bC.Z20 N a b c d e f g h i j l (λa b c d e f g h i j l=>K .nrm (jQ a b c d e f g h i j l))) (Xk N a b c d e f g h i j l _) (by kernel_rfl)
def Xm N a b c d e f g h i j l (K:KT J):ij N 29259 (jQ a b c d e f g h i j l) lJ K =
 bC.Z29 N a b c d e f g h i j l (λa b c d e f g h i j l=>K .nrm (jQ a b c d e f g h i j l)):=by kernel_rfl
def Xn N a b c d e f g h i j l (K:KT J):=vQ (λk=>bC.Z20 N a b c d e f g h i j l k) (Xl N a b c d e f g h i j l _) (fQ λa b c d e f g h i j l=>Xm N a b c d e f g h i j l K)
def Xo N a b c l d e f g h i j (K:KT J):=vQ (λk=>bC.Z18 N a b c l d e f g h i j k (λa b c d e f g h i j=>K (.exit 2) (ii a b c d e f g h i j))) (Xc N a b c l d e f g h i j _) (fQ λa b c l d e f g h i j=>Xn N a b c l d e f g h i j K)
def Xp N (K:KT J):=oh K (bC.Z16L N (λa b c d e f g h i j=>K (.exit 2) (ii a b c d e f g h i j))) (λa b c l d e f g h i j k=>bC.Z17 N a b c l d e f g h i j k (λa b c d e f g h i j=>K (.exit 2) (ii a b c d e f g h i j))) (λF a b c l d e f g h i j=>Xo N a b c l d e f g h i j _) (by kernel_rfl)
def Xq N a b c d e f g h i j l (K:KT J):=vL (jQ a b c d e f g h i j l) (Xp N (jK lI K) N a b c d e f g h i j l) (by kernel_rfl)
def Xr N a b c l d e f g h i j (K:KT J):=vB 2 lI K (bC.Z15 N a b c l d e f g h i j (λa b c d e f g h i j=>K .nrm (ii a b c d e f g h i j))) (Xq N a b c l d e f g h i j _) (by kernel_rfl)
def Xs N a b c d e f g h i j (K:KT J):=vQ (λk=>bC.Z14 N a b c d e f g h i j k) (Xb N a b c d e f g h i j _) (fQ λa b c l d e f g h i j=>Xr N a b c l d e f g h i j K)
def Xt N a b c d e f g h i j (K:KT J):=vB 1 lI K (bC.Z12 N a b c d e f g h i j (λa b c d e f g h i j=>K .nrm (ii a b c d e f g h i j))) (Xs N a b c d e f g h i j _) (by kernel_rfl)
def Xu N a b c d e f g h i j (K:KT J):ij N 459 (ii a b c d e f g h i j) lI K =
 bC.Z30 N a b c d e f g h i j (λa b c d e f g h i j=>K .nrm (ii a b c d e f g h i j)):=by kernel_rfl
def Xv N a b c d e f g h i j (K:KT J):=vQ (λk=>bC.Z12 N a b c d e f g h i j k) (Xt N a b c d e f g h i j _) (dA λa b c d e f g h i j=>Xu N a b c d e f g h i j K)
def Xw N a f g h i j b c d e (K:KT J):=vQ (λk=>bC.Z10 N a f g h i j b c d e k (λa b c d e=>K (.exit 0) (oP a b c d e))) (Xa N a f g h i j b c d e _) (dA λa f g h i j b c d e=>Xv N a f g h i j b c d e K)
def Xx N (K:KT J):=jC K (bC.Z8L N (λa b c d e=>K (.exit 0) (oP a b c d e))) (λa f g h i j b c d e k=>bC.Z9 N a f g h i j b c d e k (λa b c d e=>K (.exit 0) (oP a b c d e))) (λF a f g h i j b c d e=>Xw N a f g h i j b c d e _) (by kernel_rfl)
def Xy N a b c d e f g h i j (K:KT J):=vL (ii a b c d e f g h i j) (Xx N (jK zU K) N a b c d e f g h i j) (by kernel_rfl)
def Xz N a f g h i j b c d e (K:KT J):=vB 0 zU K (bC.Z7 N a f g h i j b c d e (λa b c d e=>K .nrm (oP a b c d e))) (Xy N a f g h i j b c d e _) (by kernel_rfl)
def XA N a b c d e f g h i (K:KT J):=vQ (λk=>bC.Z6 N a b c d e f g h i k) (W9 N a b c d e f g h i _) (dA λa b j c d e f g h i=>Xz N a b j c d e f g h i K)
def XB N c a b d e (K:KT J):ij N 15 (oP c a b d e) WV K =
 bC.Z31 N c a b d e (λf a b=>K .ret (W4 f a b)):=by kernel_rfl
def XC N a f g h i b c d e (K:KT J):=vQ (λk=>bC.Z5 N a f g h i b c d e k) (XA N a f g h i b c d e _) (cn λa b c d e=>XB N a b c d e K)
def XD N a b c d e f (K:KT J):=vQ (λk=>bC.Z3 N a b c d e f k) (W8 N a b c d e f _) (dT λg a b c d e f h i=>XC N g a b c d e f h i K)
def XE N b a (K:KT J):=vQ (λk=>bC.Z1 N b a k) (W7 N b a _) (cB λa c d e f g=>XD N a c d e f g K)
def XF(h:bC.Spec):aw Tryz.prog 87 uw :=
 bA Tryz.func87 a8 WU (λN X K=>XE N X.1 X.2.1 K) (by kernel_rfl) λX hb hp=>by obtain⟨a,b,_⟩:=X;obtain⟨N,h⟩:=h a b hb.1 hp;exact⟨N,Eq.trans (by kernel_rfl) (h N (Nat.le_refl N))⟩
def GB:aw Tryz.prog 87 uw:=XF bC.ok
def GC:ba:=⟨[⟨.pair (.int .i64) (.pair (.int .i64) (.sl 3 (.int .i64))),true,false⟩,⟨.int .i64,false,false⟩],[⟨.pair (.int .i64) (.pair (.int .i64) (.sl 3 (.int .i64))),true,false⟩,⟨.bool,false,false⟩]⟩
def zV:aQ:=⟨GC,none,λX=>((),((fb.g X.1 X.2.1).1,((fb.g X.1 X.2.1).2,())))⟩
def GD:Gm:=aI (aI (aI (aI aY 25 uv) 65 qZ) 87 uw) 104 uh
def XG:ao Tryz.prog GD:=((((ao.nil).add Gp (by kernel_rfl)).add zF (by kernel_rfl)).add GB (by kernel_rfl)).add FQ (by kernel_rfl)
def XH:ab:=⟨[],[],[],[],[]⟩
def XI(a:MT)(b:Int):St:=bu GC.ps (a,(b,()))
def XJ(a:LI)(b:Bool)(c d:Int):St:=af [(4,xb 4),(5,xB b)] [(4,(27,[yi c,yi d,.own 20000258]))] [(20000258,(⟨3,.int .i64,a,true,false⟩:ae))]
def XK:ab:=⟨[4,5],[4],[⟨⟨true,4,2⟩,30000000,3,.int .i64,true⟩],[],[(⟨true,4,2⟩,20000258)]⟩
def XL:Nat->Option ab:=aA [(1000000,XK)]
abbrev XM{J:Type}(N n:Nat)(V:St)(l:ab)(K:KT J):Option J:=an GD aZ XL N (aT 99 (a7 Tryz.f71) n) .n V (ay (some l) K)
def XN N a b (K:KT J):XM N 1 (XI a b) XH K =
 fb.Z0 N a b (λc d e f=>K .ret (XJ c d e f)):=by kernel_rfl
def XO(h:fb.Spec):aw Tryz.prog 71 zV :=
 bA Tryz.func71 a8 XG (λN X K=>XN N X.1 X.2.1 K) (by kernel_rfl) λX hb hp=>by obtain⟨a,b,_⟩:=X;obtain⟨N,h⟩:=h a b hb.1;exact⟨N,Eq.trans (by kernel_rfl) (h N (Nat.le_refl N))⟩
def XP:aw Tryz.prog 71 zV:=XO fb.ok
def GE:dh:=⟨98,[(5,.int .u8)],.pair (.int .i64) (.int .i64)⟩
def GF:List PT:=[⟨.int .i64,false,false⟩]
def XQ:List PT:=[⟨.sl 3 (.int .i64),false,false⟩]
def zW:ew:=⟨GE,GF,true,XQ,(some λX=>cH.P X.1.1.1 X.1.2 X.2.1),λX=>((cH.g X.1.1.1 X.1.2 X.2.1).1,((),((cH.g X.1.1.1 X.1.2 X.2.1).2,())))⟩
def GG:Gm:=addV aY 96 lB
def XR:ao Tryz.prog GG:=(ao.nil).addV oJ (by kernel_rfl)
def XS:ab:=⟨[],[],[],[],[]⟩
def XT(u0:Value)(b0:List Int)(r0:Int×Int)(a:Int):St:=dO GE GF [u0] (((b0,()),r0),(a,()))
def GH(u0:Value)(a:Int)(b:List Int)(c d:Int):St:=af [(0,xb 100000),(1,xi a),(100000,xb 100000)] [(100000,(98,[.bor u0 5 (.int .u8) b,yi c,yi d]))] []
def XU:ab:=⟨[0,1,100000],[100000],[],[],[]⟩
def GI(u0:Value)(a:LI)(b:Int)(c:List Int)(d e:Int):St:=af [(0,xb 100000),(1,xi b),(5,xo 1000320),(100000,xb 100000)] [(100000,(98,[.bor u0 5 (.int .u8) c,yi d,yi e]))] [(1000320,(⟨3,.int .i64,a,true,false⟩:ae))]
def XV:ab:=⟨[0,1,5,100000],[100000],[],[],[(⟨false,5,0⟩,1000320)]⟩
def ux(u0:Value)(a:LI)(b c:Int)(d:List Int)(e f:Int):St:=af [(0,xb 100000),(1,xi b),(5,xo 1000320),(6,xi c),(100000,xb 100000)] [(100000,(98,[.bor u0 5 (.int .u8) d,yi e,yi f]))] [(1000320,(⟨3,.int .i64,a,true,false⟩:ae))]
def GJ:ab:=⟨[0,1,5,6,100000],[100000],[],[],[(⟨false,5,0⟩,1000320)]⟩
def rj(u0:Value)(a:LI)(b:List Int)(c d:Int):St:=af [(5,xo 1000320),(100000,xb 100000)] [(100000,(98,[.bor u0 5 (.int .u8) b,yi c,yi d]))] [(1000320,(⟨3,.int .i64,a,true,false⟩:ae))]
def zX:ab:=⟨[5,100000],[100000],[],[],[(⟨false,5,0⟩,1000320)]⟩
def XW(u0:Value)(a:LI)(b:List Int)(c d:Int):St:=af [(4,xo 1000256),(100000,xb 100000)] [(100000,(98,[.bor u0 5 (.int .u8) b,yi c,yi d]))] [(1000256,(⟨3,.int .i64,a,true,false⟩:ae))]
def XX:ab:=⟨[4,100000],[100000],[],[],[(⟨false,4,0⟩,1000256)]⟩
def XY:Nat->Option ab:=aA [(0,zX),(1000000,XX)]
abbrev rp{J:Type}(N n:Nat)(V:St)(l:ab)(K:KT J):Option J:=an GG aZ XY N (aT 99 (a7 Tryz.f158) n) .n V (ay (some l) K)
def XZ N u0 b0 r0 a (K:KT J):rp N 2 (XT u0 b0 r0 a) XU K =
 cH.Z1 N b0 r0 a (λa b c d=>K .nrm (GH u0 a b c d)):=by kernel_rfl
def X0 N u0 a b c d (K:KT J):rp N 5 (GH u0 a b c d) XV K =
 cH.Z3 N a b c d (λe a b c d=>K .nrm (GI u0 e a b c d)):=by kernel_rfl
def X1 N u0 a b c d e (K:KT J):rp N 19 (GI u0 a b c d e) GJ K =
 cH.Z6 N a b c d e (λa b f c d e=>K .nrm (ux u0 a b f c d e)):=by kernel_rfl
def X3 N u0 a e f b c d (K:KT J):rp N 75 (ux u0 a e f b c d) GJ K =
 cH.Z9 N a e f b c d (λa e f b c d=>K .nrm (ux u0 a e f b c d)) (λa b c d=>K (.exit 0) (rj u0 a b c d)):=by kernel_rfl
def X4 N u0 (K:KT J):=kf K (cH.Z8L N (λa b c d=>K (.exit 0) (rj u0 a b c d))) (λa e f b c d k=>cH.Z9 N a e f b c d k (λa b c d=>K (.exit 0) (rj u0 a b c d))) (λF a e f b c d=>X3 N u0 a e f b c d _) (by kernel_rfl)
def X5 N u0 a b c d e f (K:KT J):=vL (ux u0 a b c d e f) (X4 N u0 (jK zX K) N a b c d e f) (by kernel_rfl)
def X6 N u0 a e f b c d (K:KT J):=vB 0 zX K (cH.Z7 N a e f b c d (λa b c d=>K .nrm (rj u0 a b c d))) (X5 N u0 a e f b c d _) (by kernel_rfl)
def X7 N u0 a b c d e (K:KT J):=vQ (λk=>cH.Z6 N a b c d e k) (X1 N u0 a b c d e _) (cB λa b f c d e=>X6 N u0 a b f c d e K)
def X8 N u0 d a b c (K:KT J):rp N 15 (rj u0 d a b c) XS K =
 cH.Z10 N d a b c (λe a b c=>K .ret (XW u0 e a b c)):=by kernel_rfl
def X9 N u0 a e b c d (K:KT J):=vQ (λk=>cH.Z5 N a e b c d k) (X7 N u0 a e b c d _) (d7 λa b c d=>X8 N u0 a b c d K)
def Ya N u0 a b c d (K:KT J):=vQ (λk=>cH.Z3 N a b c d k) (X0 N u0 a b c d _) (cn λe a b c d=>X9 N u0 e a b c d K)
def Yb N u0 b0 r0 a (K:KT J):=vQ (λk=>cH.Z1 N b0 r0 a k) (XZ N u0 b0 r0 a _) (d7 λa b c d=>Ya N u0 a b c d K)
def Yc(h:cH.Spec):dj Tryz.prog 158 zW :=
 jk Tryz.func158 a8 XR (λN u X K=>Yb N u X.1.1.1 X.1.2 X.2.1 K) (by kernel_rfl) λu0 X hb1 hb2 hp=>by obtain⟨⟨⟨b0,_⟩,r0⟩,a,_⟩:=X;obtain⟨N,h⟩:=h [u0] b0 r0 a hb1.1 hp;exact⟨N,Eq.trans (by kernel_rfl) (h N (Nat.le_refl N))⟩
def Yd:dj Tryz.prog 158 zW:=Yc cH.ok
def GK:ba:=⟨[⟨.pair (.int .i64) (.pair (.int .i64) (.sl 3 (.int .i64))),true,false⟩,⟨.sl 3 (.int .i64),false,false⟩],[⟨.pair (.int .i64) (.pair (.int .i64) (.sl 3 (.int .i64))),true,false⟩]⟩
def uy:aQ:=⟨GK,(some λX=>bM.P X.1 X.2.1),λX=>((),((bM.g X.1 X.2.1),()))⟩
def GL:Gm:=aI (aI aY 70 rc) 105 ni
def Ye:ao Tryz.prog GL:=((ao.nil).add zT (by kernel_rfl)).add qY (by kernel_rfl)
def Yf:ab:=⟨[],[],[],[],[]⟩
def Yg(a:MT)(b:LI):St:=bu GK.ps (a,(b,()))
def GM(a:LI)(b d:Int)(e:LI)(f g:Int):St:=af [(1,.c (.sn 3 tI a none)),(2,xb 2),(4,xb 4)] [(2,(27,[yi b,yi d,.sn 3 tI e none])),(4,(27,[yi f,yi g,.nil]))] []
def Yh:ab:=⟨[1,2,4],[2,4],[],[],[]⟩
def GN(a b:LI)(d e:Int)(f:LI)(g h i j:Int):St:=af [(1,.c (.sn 3 tI b none)),(2,xb 2),(4,xb 4),(5,xb 5)] [(2,(27,[yi d,yi e,.sn 3 tI f none])),(4,(27,[yi g,yi h,.nil])),(5,(27,[yi i,yi j,.own 20000322]))] [(20000322,(⟨3,.int .i64,a,true,false⟩:ae))]
def Yi:ab:=⟨[1,2,4,5],[2,4,5],[],[],[(⟨true,5,2⟩,20000322)]⟩
def iM(a b:LI)(d e f:Int)(g:LI)(h i j l:Int):St:=af [(1,.c (.sn 3 tI b none)),(2,xb 2),(4,xb 4),(5,xb 5),(6,xi d)] [(2,(27,[yi e,yi f,.sn 3 tI g none])),(4,(27,[yi h,yi i,.nil])),(5,(27,[yi j,yi l,.own 20000322]))] [(20000322,(⟨3,.int .i64,a,true,false⟩:ae))]
def lK:ab:=⟨[1,2,4,5,6],[2,4,5],[],[],[(⟨true,5,2⟩,20000322)]⟩
def uz(a b:LI)(d e f g:Int)(h:LI)(i j l m:Int):St:=af [(1,.c (.sn 3 tI b none)),(2,xb 2),(4,xb 4),(5,xb 5),(6,xi d),(7,xi e)] [(2,(27,[yi f,yi g,.sn 3 tI h none])),(4,(27,[yi i,yi j,.nil])),(5,(27,[yi l,yi m,.own 20000322]))] [(20000322,(⟨3,.int .i64,a,true,false⟩:ae))]
def GO:ab:=⟨[1,2,4,5,6,7],[2,4,5],[],[],[(⟨true,5,2⟩,20000322)]⟩
def uA(a b:LI)(d e f g h:Int)(i:LI)(j l m o:Int):St:=af [(1,.c (.sn 3 tI b none)),(2,xb 2),(4,xb 4),(5,xb 5),(6,xi d),(7,xi e),(8,xi f)] [(2,(27,[yi g,yi h,.sn 3 tI i none])),(4,(27,[yi j,yi l,.nil])),(5,(27,[yi m,yi o,.own 20000322]))] [(20000322,(⟨3,.int .i64,a,true,false⟩:ae))]
def GP:ab:=⟨[1,2,4,5,6,7,8],[2,4,5],[],[],[(⟨true,5,2⟩,20000322)]⟩
def oQ(a:LI)(b c d e:Int):St:=af [(4,xb 4),(5,xb 5)] [(4,(27,[yi b,yi c,.nil])),(5,(27,[yi d,yi e,.own 20000322]))] [(20000322,(⟨3,.int .i64,a,true,false⟩:ae))]
def zY:ab:=⟨[4,5],[4,5],[],[],[(⟨true,5,2⟩,20000322)]⟩
def Yj(a:LI)(b c:Int):St:=af [(4,xb 4)] [(4,(27,[yi b,yi c,.own 20000258]))] [(20000258,(⟨3,.int .i64,a,true,false⟩:ae))]
def Yk:ab:=⟨[4],[4],[],[],[(⟨true,4,2⟩,20000258)]⟩
def Yl:Nat->Option ab:=aA [(2,lK),(1,lK),(0,zY),(1000000,Yk)]
abbrev jR{J:Type}(N n:Nat)(V:St)(l:ab)(K:KT J):Option J:=an GL aZ Yl N (aT 99 (a7 Tryz.f120) n) .n V (ay (some l) K)
def Ym N b a (K:KT J):jR N 2 (Yg b a) Yh K =
 bM.Z1 N b a (λa c d e f g=>K .nrm (GM a c d e f g)):=by kernel_rfl
def Yn N a b c d e f (K:KT J):jR N 5 (GM a b c d e f) Yi K =
 bM.Z3 N a b c d e f (λg a b c d e f h i=>K .nrm (GN g a b c d e f h i)):=by kernel_rfl
def Yo N a b c d e f g h i (K:KT J):jR N 19 (GN a b c d e f g h i) lK K =
 bM.Z6 N a b c d e f g h i (λa b j c d e f g h i=>K .nrm (iM a b j c d e f g h i)):=by kernel_rfl
def Yp N a f g h i j b c d e (K:KT J):jR N 139 (iM a f g h i j b c d e) lK K =
 bM.Z10 N a f g h i j b c d e (λa f g h i j b c d e=>K .nrm (iM a f g h i j b c d e)) (λa b c d e=>K (.exit 0) (oQ a b c d e)):=by kernel_rfl
def Yq N a b c d e f g h i j (K:KT J):jR N 1099 (iM a b c d e f g h i j) GO K =
 bM.Z14 N a b c d e f g h i j (λa b c l d e f g h i j=>K .nrm (uz a b c l d e f g h i j)):=by kernel_rfl
def Yr N a b c d e f g h i j l (K:KT J):jR N 2635 (uz a b c d e f g h i j l) GO K =
 bM.Z16 N a b c d e f g h i j l (λa b c d e f g h i j l=>K .nrm (uz a b c d e f g h i j l)):=by kernel_rfl
def Ys N a b c d e f g h i j l (K:KT J):jR N 5707 (uz a b c d e f g h i j l) GP K =
 bM.Z18 N a b c d e f g h i j l (λa b c d m e f g h i j l=>K .nrm (uA a b c d m e f g h i j l)):=by kernel_rfl
def Yt N a b c l m d e f g h i j (K:KT J):jR N 20043 (uA a b c l m d e f g h i j) GP K =
 bM.Z21 N a b c l m d e f g h i j (λa b c l m d e f g h i j=>K .nrm (uA a b c l m d e f g h i j)) (λa b c d e f g h i j=>K (.exit 2) (iM a b c d e f g h i j)):=by kernel_rfl
def Yu N (K:KT J):=qy K (bM.Z20L N (λa b c d e f g h i j=>K (.exit 2) (iM a b c d e f g h i j))) (λa b c l m d e f g h i j k=>bM.Z21 N a b c l m d e f g h i j k (λa b c d e f g h i j=>K (.exit 2) (iM a b c d e f g h i j))) (λF a b c l m d e f g h i j=>Yt N a b c l m d e f g h i j _) (by kernel_rfl)
def Yv N a b c d e f g h i j l m (K:KT J):=vL (uA a b c d e f g h i j l m) (Yu N (jK lK K) N a b c d e f g h i j l m) (by kernel_rfl)
def Yw N a b c l m d e f g h i j (K:KT J):=vB 2 lK K (bM.Z19 N a b c l m d e f g h i j (λa b c d e f g h i j=>K .nrm (iM a b c d e f g h i j))) (Yv N a b c l m d e f g h i j _) (by kernel_rfl)
def Yx N a b c d e f g h i j l (K:KT J):=vQ (λk=>bM.Z18 N a b c d e f g h i j l k) (Ys N a b c d e f g h i j l _) (og λa b c d m e f g h i j l=>Yw N a b c d m e f g h i j l K)
def Yy N a b c d e f g h i j l (K:KT J):=vQ (λk=>bM.Z16 N a b c d e f g h i j l k) (Yr N a b c d e f g h i j l _) (fQ λa b c d e f g h i j l=>Yx N a b c d e f g h i j l K)
def Yz N a b c d e f g h i j (K:KT J):=vQ (λk=>bM.Z14 N a b c d e f g h i j k) (Yq N a b c d e f g h i j _) (fQ λa b c l d e f g h i j=>Yy N a b c l d e f g h i j K)
def YA N a b c d e f g h i j (K:KT J):=vB 1 lK K (bM.Z12 N a b c d e f g h i j (λa b c d e f g h i j=>K .nrm (iM a b c d e f g h i j))) (Yz N a b c d e f g h i j _) (by kernel_rfl)
def YB N a b c d e f g h i j (K:KT J):jR N 459 (iM a b c d e f g h i j) lK K =
 bM.Z22 N a b c d e f g h i j (λa b c d e f g h i j=>K .nrm (iM a b c d e f g h i j)):=by kernel_rfl
def YC N a b c d e f g h i j (K:KT J):=vQ (λk=>bM.Z12 N a b c d e f g h i j k) (YA N a b c d e f g h i j _) (dA λa b c d e f g h i j=>YB N a b c d e f g h i j K)
def YD N a f g h i j b c d e (K:KT J):=vQ (λk=>bM.Z10 N a f g h i j b c d e k (λa b c d e=>K (.exit 0) (oQ a b c d e))) (Yp N a f g h i j b c d e _) (dA λa f g h i j b c d e=>YC N a f g h i j b c d e K)
def YE N (K:KT J):=jC K (bM.Z8L N (λa b c d e=>K (.exit 0) (oQ a b c d e))) (λa f g h i j b c d e k=>bM.Z9 N a f g h i j b c d e k (λa b c d e=>K (.exit 0) (oQ a b c d e))) (λF a f g h i j b c d e=>YD N a f g h i j b c d e _) (by kernel_rfl)
def YF N a b c d e f g h i j (K:KT J):=vL (iM a b c d e f g h i j) (YE N (jK zY K) N a b c d e f g h i j) (by kernel_rfl)
def YG N a f g h i j b c d e (K:KT J):=vB 0 zY K (bM.Z7 N a f g h i j b c d e (λa b c d e=>K .nrm (oQ a b c d e))) (YF N a f g h i j b c d e _) (by kernel_rfl)
def YH N a b c d e f g h i (K:KT J):=vQ (λk=>bM.Z6 N a b c d e f g h i k) (Yo N a b c d e f g h i _) (dA λa b j c d e f g h i=>YG N a b j c d e f g h i K)
def YI N c a b d e (K:KT J):jR N 15 (oQ c a b d e) Yf K =
 bM.Z23 N c a b d e (λf a b=>K .ret (Yj f a b)):=by kernel_rfl
def YJ N a f g h i b c d e (K:KT J):=vQ (λk=>bM.Z5 N a f g h i b c d e k) (YH N a f g h i b c d e _) (cn λa b c d e=>YI N a b c d e K)
def YK N a b c d e f (K:KT J):=vQ (λk=>bM.Z3 N a b c d e f k) (Yn N a b c d e f _) (dT λg a b c d e f h i=>YJ N g a b c d e f h i K)
def YL N b a (K:KT J):=vQ (λk=>bM.Z1 N b a k) (Ym N b a _) (cB λa c d e f g=>YK N a c d e f g K)
def YM(h:bM.Spec):aw Tryz.prog 120 uy :=
 bA Tryz.func120 a8 Ye (λN X K=>YL N X.1 X.2.1 K) (by kernel_rfl) λX hb hp=>by obtain⟨a,b,_⟩:=X;obtain⟨N,h⟩:=h a b hb.1 hb.2.1 hp;exact⟨N,Eq.trans (by kernel_rfl) (h N (Nat.le_refl N))⟩
def GQ:aw Tryz.prog 120 uy:=YM bM.ok
def GR:dh:=⟨98,[(5,.int .u8)],.pair (.int .i64) (.int .i64)⟩
def GS:List PT:=[⟨.pair (.int .i64) (.pair (.int .i64) (.sl 3 (.int .i64))),true,false⟩]
def YN:List PT:=[⟨.pair (.int .i64) (.pair (.int .i64) (.sl 3 (.int .i64))),true,false⟩]
def zZ:ew:=⟨GR,GS,true,YN,(some λX=>bY.P X.1.1.1 X.1.2 X.2.1),λX=>((bY.g X.1.1.1 X.1.2 X.2.1).1,((),((bY.g X.1.1.1 X.1.2 X.2.1).2,())))⟩
def GT:Gm:=addV (aI (addV (aI aY 71 zV) 96 lB) 120 uy) 158 zW
def YO:ao Tryz.prog GT:=((((ao.nil).add XP (by kernel_rfl)).addV oJ (by kernel_rfl)).add GQ (by kernel_rfl)).addV Yd (by kernel_rfl)
def YP:ab:=⟨[],[],[],[],[]⟩
def YQ(u0:Value)(b0:List Int)(r0:Int×Int)(a:MT):St:=dO GR GS [u0] (((b0,()),r0),(a,()))
def nj(u0:Value)(a:List Int)(b c d e:Int)(f:LI)(g h:Int):St:=af [(0,xb 100000),(3,xb 3),(4,xb 4),(100000,xb 100000)] [(100000,(98,[.bor u0 5 (.int .u8) a,yi b,yi c])),(3,(27,[yi d,yi e,.sn 3 tI f none])),(4,(27,[yi g,yi h,.nil]))] []
def uB:ab:=⟨[0,3,4,100000],[100000,3,4],[],[],[]⟩
def GU(u0:Value)(a:Int)(b:List Int)(c d e f:Int)(g:LI)(h i:Int):St:=af [(0,xb 100000),(3,xb 3),(4,xb 4),(5,xi a),(100000,xb 100000)] [(100000,(98,[.bor u0 5 (.int .u8) b,yi c,yi d])),(3,(27,[yi e,yi f,.sn 3 tI g none])),(4,(27,[yi h,yi i,.nil]))] []
def YR:ab:=⟨[0,3,4,5,100000],[100000,3,4],[],[],[]⟩
def GV(u0:Value)(a b:Int)(c:List Int)(d e f g:Int)(h:LI)(i j:Int):St:=af [(0,xb 100000),(3,xb 3),(4,xb 4),(5,xi a),(6,xi b),(100000,xb 100000)] [(100000,(98,[.bor u0 5 (.int .u8) c,yi d,yi e])),(3,(27,[yi f,yi g,.sn 3 tI h none])),(4,(27,[yi i,yi j,.nil]))] []
def YS:ab:=⟨[0,3,4,5,6,100000],[100000,3,4],[],[],[]⟩
def GW(u0:Value)(a b:Int)(c:List Int)(d e f g:Int)(h:LI)(i j:Int):St:=af [(0,xb 100000),(3,xb 3),(4,xb 4),(5,xi a),(6,xi b),(100000,xb 100000)] [(100000,(98,[.bor u0 5 (.int .u8) c,yi d,yi e])),(3,(27,[yi f,yi g,.sn 3 tI h none])),(4,(27,[yi i,yi j,.nil]))] []
def YT:ab:=⟨[0,3,4,5,6,100000],[100000,3,4],[],[(⟨true,3,2⟩,3,.int .i64)],[]⟩
def YU(u0:Value)(a:LI)(b c:Int)(d:List Int)(e f:Int):St:=af [(4,xb 4),(100000,xb 100000)] [(4,(27,[yi b,yi c,.own 20000258])),(100000,(98,[.bor u0 5 (.int .u8) d,yi e,yi f]))] [(20000258,(⟨3,.int .i64,a,true,false⟩:ae))]
def YV:ab:=⟨[4,100000],[4,100000],[],[],[(⟨true,4,2⟩,20000258)]⟩
def YW:Nat->Option ab:=aA [(0,uB),(1000000,YV)]
abbrev rq{J:Type}(N n:Nat)(V:St)(l:ab)(K:KT J):Option J:=an GT aZ YW N (aT 99 (a7 Tryz.f118) n) .n V (ay (some l) K)
def YX N u0 b0 r0 a (K:KT J):rq N 2 (YQ u0 b0 r0 a) uB K =
 bY.Z1 N b0 r0 a (λb c d e f g h i=>K .nrm (nj u0 b c d e f g h i)):=by kernel_rfl
def YY N u0 a b c d e f g h (K:KT J):rq N 5 (nj u0 a b c d e f g h) YR K =
 bY.Z3 N a b c d e f g h (λi a b c d e f g h=>K .nrm (GU u0 i a b c d e f g h)):=by kernel_rfl
def YZ N u0 a b c d e f g h i (K:KT J):rq N 19 (GU u0 a b c d e f g h i) YS K =
 bY.Z6 N a b c d e f g h i (λa j b c d e f g h i=>K .nrm (GV u0 a j b c d e f g h i)):=by kernel_rfl
def Y0 N u0 i j a b c d e f g h (K:KT J):rq N 75 (GW u0 i j a b c d e f g h) YT K =
 bY.Z9 N i j a b c d e f g h (λi j a b c d e f g h=>K .nrm (GW u0 i j a b c d e f g h)) (λa b c d e f g h=>K (.exit 0) (nj u0 a b c d e f g h)):=by kernel_rfl
def Y1 N u0 (K:KT J):=jC K (bY.Z8L N (λa b c d e f g h=>K (.exit 0) (nj u0 a b c d e f g h))) (λi j a b c d e f g h k=>bY.Z9 N i j a b c d e f g h k (λa b c d e f g h=>K (.exit 0) (nj u0 a b c d e f g h))) (λF i j a b c d e f g h=>Y0 N u0 i j a b c d e f g h _) (by kernel_rfl)
def Y2 N u0 a b c d e f g h i j (K:KT J):=vL (GV u0 a b c d e f g h i j) (Y1 N u0 (jK uB K) N a b c d e f g h i j) (by kernel_rfl)
def Y3 N u0 i j a b c d e f g h (K:KT J):=vB 0 uB K (bY.Z7 N i j a b c d e f g h (λa b c d e f g h=>K .nrm (nj u0 a b c d e f g h))) (Y2 N u0 i j a b c d e f g h _) (by kernel_rfl)
def Y4 N u0 a b c d e f g h i (K:KT J):=vQ (λk=>bY.Z6 N a b c d e f g h i k) (YZ N u0 a b c d e f g h i _) (dA λa j b c d e f g h i=>Y3 N u0 a j b c d e f g h i K)
def Y5 N u0 a b c f g h d e (K:KT J):rq N 15 (nj u0 a b c f g h d e) YP K =
 bY.Z10 N a b c f g h d e (λi d e a b c=>K .ret (YU u0 i d e a b c)):=by kernel_rfl
def Y6 N u0 i a b c d e f g h (K:KT J):=vQ (λk=>bY.Z5 N i a b c d e f g h k) (Y4 N u0 i a b c d e f g h _) (du λa b c d e f g h=>Y5 N u0 a b c d e f g h K)
def Y7 N u0 a b c d e f g h (K:KT J):=vQ (λk=>bY.Z3 N a b c d e f g h k) (YY N u0 a b c d e f g h _) (dT λi a b c d e f g h=>Y6 N u0 i a b c d e f g h K)
def Y8 N u0 b0 r0 a (K:KT J):=vQ (λk=>bY.Z1 N b0 r0 a k) (YX N u0 b0 r0 a _) (du λb c d e f g h i=>Y7 N u0 b c d e f g h i K)
def Y9(h:bY.Spec):dj Tryz.prog 118 zZ :=
 jk Tryz.func118 a8 YO (λN u X K=>Y8 N u X.1.1.1 X.1.2 X.2.1 K) (by kernel_rfl) λu0 X hb1 hb2 hp=>by obtain⟨⟨⟨b0,_⟩,r0⟩,a,_⟩:=X;obtain⟨N,h⟩:=h [u0] b0 r0 a hb1.1 hb2.1 hp;exact⟨N,Eq.trans (by kernel_rfl) (h N (Nat.le_refl N))⟩
def Za:dj Tryz.prog 118 zZ:=Y9 bY.ok
def GX:dh:=⟨98,[(5,.int .u8)],.pair (.int .i64) (.int .i64)⟩
def GY:List PT:=[⟨.int .i64,false,false⟩]
def Zb:List PT:=[⟨.pair (.int .i64) (.pair (.int .i64) (.sl 3 (.int .i64))),true,false⟩,⟨.str,false,false⟩]
def z6:ew:=⟨GX,GY,true,Zb,(some λX=>ed.P X.1.1.1 X.1.2 X.2.1),λX=>((ed.g X.1.1.1 X.1.2 X.2.1).1,((),((ed.g X.1.1.1 X.1.2 X.2.1).2.1,((ed.g X.1.1.1 X.1.2 X.2.1).2.2,()))))⟩
def GZ:Gm:=addV (addV aY 117 zu) 118 zZ
def Zc:ao Tryz.prog GZ:=((ao.nil).addV S8 (by kernel_rfl)).addV Za (by kernel_rfl)
def Zd:ab:=⟨[],[],[],[],[]⟩
def Ze(u0:Value)(b0:List Int)(r0:Int×Int)(a:Int):St:=dO GX GY [u0] (((b0,()),r0),(a,()))
def Zf(u0:Value)(a:LI)(b:ByteArray)(d e:Int)(f:List Int)(g h:Int):St:=af [(4,xb 4),(5,.c (.str b)),(100000,xb 100000)] [(4,(27,[yi d,yi e,.own 20000258])),(100000,(98,[.bor u0 5 (.int .u8) f,yi g,yi h]))] [(20000258,(⟨3,.int .i64,a,true,false⟩:ae))]
def Zg:ab:=⟨[4,5,100000],[4,100000],[],[],[(⟨true,4,2⟩,20000258)]⟩
def Zh:Nat->Option ab:=aA [(1000000,Zg)]
abbrev Zi{J:Type}(N n:Nat)(V:St)(l:ab)(K:KT J):Option J:=an GZ aZ Zh N (aT 99 (a7 Tryz.f82) n) .n V (ay (some l) K)
def Zj N u0 b0 r0 a (K:KT J):Zi N 1 (Ze u0 b0 r0 a) Zd K =
 ed.Z0 N b0 r0 a (λb c d e f g h=>K .ret (Zf u0 b c d e f g h)):=by kernel_rfl
def Zk(h:ed.Spec):dj Tryz.prog 82 z6 :=
 jk Tryz.func82 a8 Zc (λN u X K=>Zj N u X.1.1.1 X.1.2 X.2.1 K) (by kernel_rfl) λu0 X hb1 hb2 hp=>by obtain⟨⟨⟨b0,_⟩,r0⟩,a,_⟩:=X;obtain⟨N,h⟩:=h [u0] b0 r0 a hb1.1 hp;exact⟨N,Eq.trans (by kernel_rfl) (h N (Nat.le_refl N))⟩
def Zl:dj Tryz.prog 82 z6:=Zk ed.ok
def G0:dh:=⟨98,[(5,.int .u8)],.pair (.int .i64) (.int .i64)⟩
def G1:List PT:=[]
def Zm:List PT:=[⟨.pair (.int .i64) (.pair (.int .i64) (.sl 3 (.int .i64))),true,false⟩]
def z8:ew:=⟨G0,G1,true,Zm,(some λX=>cJ.P X.1.1.1 X.1.2),λX=>((cJ.g X.1.1.1 X.1.2).1,((),((cJ.g X.1.1.1 X.1.2).2,())))⟩
def G3:Gm:=addV (addV (addV aY 59 tX) 82 z6) 97 zo
def Zn:ao Tryz.prog G3:=(((ao.nil).addV Ff (by kernel_rfl)).addV Zl (by kernel_rfl)).addV Rg (by kernel_rfl)
def Zo:ab:=⟨[],[],[],[],[]⟩
def Zp(u0:Value)(b0:List Int)(r0:Int×Int):St:=dO G0 G1 [u0] (((b0,()),r0),())
def Zq(u0:Value)(a:LI)(b c:Int)(d:List Int)(e f:Int):St:=af [(2,xb 2),(100000,xb 100000)] [(2,(27,[yi b,yi c,.own 20000130])),(100000,(98,[.bor u0 5 (.int .u8) d,yi e,yi f]))] [(20000130,(⟨3,.int .i64,a,true,false⟩:ae))]
def Zr:ab:=⟨[2,100000],[2,100000],[],[],[(⟨true,2,2⟩,20000130)]⟩
def Zs:Nat->Option ab:=aA [(1000000,Zr)]
abbrev Zt{J:Type}(N n:Nat)(V:St)(l:ab)(K:KT J):Option J:=an G3 aZ Zs N (aT 99 (a7 Tryz.f56) n) .n V (ay (some l) K)
def Zu N u0 b0 r0 (K:KT J):Zt N 1 (Zp u0 b0 r0) Zo K =
 cJ.Z0 N b0 r0 (λa b c d e f=>K .ret (Zq u0 a b c d e f)):=by kernel_rfl
def Zv(h:cJ.Spec):dj Tryz.prog 56 z8 :=
 jk Tryz.func56 a8 Zn (λN u X K=>Zu N u X.1.1.1 X.1.2 K) (by kernel_rfl) λu0 X hb1 hb2 hp=>by obtain⟨⟨⟨b0,_⟩,r0⟩,_⟩:=X;obtain⟨N,h⟩:=h [u0] b0 r0 hb1.1 hp;exact⟨N,Eq.trans (by kernel_rfl) (h N (Nat.le_refl N))⟩
def Zw:dj Tryz.prog 56 z8:=Zv cJ.ok
def G4:dh:=⟨98,[(5,.int .u8)],.pair (.int .i64) (.int .i64)⟩
def G5:List PT:=[⟨.int .i64,false,false⟩,⟨.int .i64,false,false⟩]
def Zx:List PT:=[⟨.sl 3 (.int .i64),false,false⟩]
def Aa:ew:=⟨G4,G5,true,Zx,(some λX=>cW.P X.1.1.1 X.1.2 X.2.1 X.2.2.1),λX=>((cW.g X.1.1.1 X.1.2 X.2.1 X.2.2.1).1,((),((cW.g X.1.1.1 X.1.2 X.2.1 X.2.2.1).2,())))⟩
def G6:Gm:=addV aY 96 lB
def Zy:ao Tryz.prog G6:=(ao.nil).addV oJ (by kernel_rfl)
def Zz:ab:=⟨[],[],[],[],[]⟩
def ZA(u0:Value)(b0:List Int)(r0:Int×Int)(a b:Int):St:=dO G4 G5 [u0] (((b0,()),r0),(a,(b,())))
def G7(u0:Value)(a b:Int)(c:List Int)(d e:Int):St:=af [(0,xb 100000),(1,xi a),(2,xi b),(100000,xb 100000)] [(100000,(98,[.bor u0 5 (.int .u8) c,yi d,yi e]))] []
def ZB:ab:=⟨[0,1,2,100000],[100000],[],[],[]⟩
def G8(u0:Value)(a:LI)(b c:Int)(d:List Int)(e f:Int):St:=af [(0,xb 100000),(1,xi b),(2,xi c),(7,xo 1000448),(100000,xb 100000)] [(100000,(98,[.bor u0 5 (.int .u8) d,yi e,yi f]))] [(1000448,(⟨3,.int .i64,a,true,false⟩:ae))]
def ZC:ab:=⟨[0,1,2,7,100000],[100000],[],[],[(⟨false,7,0⟩,1000448)]⟩
def G9(u0:Value)(a:LI)(b c:Int)(d:List Int)(e f:Int):St:=af [(0,xb 100000),(1,xi b),(7,xo 1000448),(8,xi c),(100000,xb 100000)] [(100000,(98,[.bor u0 5 (.int .u8) d,yi e,yi f]))] [(1000448,(⟨3,.int .i64,a,true,false⟩:ae))]
def ZD:ab:=⟨[0,1,7,8,100000],[100000],[],[],[(⟨false,7,0⟩,1000448)]⟩
def uC(u0:Value)(a:LI)(b c d:Int)(e:List Int)(f g:Int):St:=af [(0,xb 100000),(1,xi b),(7,xo 1000448),(8,xi c),(9,xi d),(100000,xb 100000)] [(100000,(98,[.bor u0 5 (.int .u8) e,yi f,yi g]))] [(1000448,(⟨3,.int .i64,a,true,false⟩:ae))]
def Ha:ab:=⟨[0,1,7,8,9,100000],[100000],[],[],[(⟨false,7,0⟩,1000448)]⟩
def ru(u0:Value)(a:LI)(b:List Int)(c d:Int):St:=af [(7,xo 1000448),(100000,xb 100000)] [(100000,(98,[.bor u0 5 (.int .u8) b,yi c,yi d]))] [(1000448,(⟨3,.int .i64,a,true,false⟩:ae))]
def Ab:ab:=⟨[7,100000],[100000],[],[],[(⟨false,7,0⟩,1000448)]⟩
def ZE(u0:Value)(a:LI)(b:List Int)(c d:Int):St:=af [(6,xo 1000384),(100000,xb 100000)] [(100000,(98,[.bor u0 5 (.int .u8) b,yi c,yi d]))] [(1000384,(⟨3,.int .i64,a,true,false⟩:ae))]
def ZF:ab:=⟨[6,100000],[100000],[],[],[(⟨false,6,0⟩,1000384)]⟩
def ZG:Nat->Option ab:=aA [(0,Ab),(1000000,ZF)]
abbrev oR{J:Type}(N n:Nat)(V:St)(l:ab)(K:KT J):Option J:=an G6 aZ ZG N (aT 99 (a7 Tryz.f68) n) .n V (ay (some l) K)
def ZH N u0 b0 r0 a b (K:KT J):oR N 2 (ZA u0 b0 r0 a b) ZB K =
 cW.Z1 N b0 r0 a b (λa b c d e=>K .nrm (G7 u0 a b c d e)):=by kernel_rfl
def ZI N u0 a b c d e (K:KT J):oR N 5 (G7 u0 a b c d e) ZC K =
 cW.Z3 N a b c d e (λf a b c d e=>K .nrm (G8 u0 f a b c d e)):=by kernel_rfl
def ZJ N u0 a b f c d e (K:KT J):oR N 11 (G8 u0 a b f c d e) ZD K =
 cW.Z5 N a b f c d e (λa b g c d e=>K .nrm (G9 u0 a b g c d e)):=by kernel_rfl
def ZK N u0 a b c d e f (K:KT J):oR N 39 (G9 u0 a b c d e f) Ha K =
 cW.Z8 N a b c d e f (λa b c g d e f=>K .nrm (uC u0 a b c g d e f)):=by kernel_rfl
def ZL N u0 a e f g b c d (K:KT J):oR N 151 (uC u0 a e f g b c d) Ha K =
 cW.Z11 N a e f g b c d (λa e f g b c d=>K .nrm (uC u0 a e f g b c d)) (λa b c d=>K (.exit 0) (ru u0 a b c d)):=by kernel_rfl
def ZM N u0 (K:KT J):=qx K (cW.Z10L N (λa b c d=>K (.exit 0) (ru u0 a b c d))) (λa e f g b c d k=>cW.Z11 N a e f g b c d k (λa b c d=>K (.exit 0) (ru u0 a b c d))) (λF a e f g b c d=>ZL N u0 a e f g b c d _) (by kernel_rfl)
def ZN N u0 a b c d e f g (K:KT J):=vL (uC u0 a b c d e f g) (ZM N u0 (jK Ab K) N a b c d e f g) (by kernel_rfl)
def ZO N u0 a e f g b c d (K:KT J):=vB 0 Ab K (cW.Z9 N a e f g b c d (λa b c d=>K .nrm (ru u0 a b c d))) (ZN N u0 a e f g b c d _) (by kernel_rfl)
def ZP N u0 a b c d e f (K:KT J):=vQ (λk=>cW.Z8 N a b c d e f k) (ZK N u0 a b c d e f _) (eA λa b c g d e f=>ZO N u0 a b c g d e f K)
def ZQ N u0 d a b c (K:KT J):oR N 31 (ru u0 d a b c) Zz K =
 cW.Z12 N d a b c (λe a b c=>K .ret (ZE u0 e a b c)):=by kernel_rfl
def ZR N u0 a e f b c d (K:KT J):=vQ (λk=>cW.Z7 N a e f b c d k) (ZP N u0 a e f b c d _) (d7 λa b c d=>ZQ N u0 a b c d K)
def ZS N u0 a b f c d e (K:KT J):=vQ (λk=>cW.Z5 N a b f c d e k) (ZJ N u0 a b f c d e _) (cB λa b g c d e=>ZR N u0 a b g c d e K)
def ZT N u0 a b c d e (K:KT J):=vQ (λk=>cW.Z3 N a b c d e k) (ZI N u0 a b c d e _) (cB λf a b c d e=>ZS N u0 f a b c d e K)
def ZU N u0 b0 r0 a b (K:KT J):=vQ (λk=>cW.Z1 N b0 r0 a b k) (ZH N u0 b0 r0 a b _) (cn λa b c d e=>ZT N u0 a b c d e K)
def ZV(h:cW.Spec):dj Tryz.prog 68 Aa :=
 jk Tryz.func68 a8 Zy (λN u X K=>ZU N u X.1.1.1 X.1.2 X.2.1 X.2.2.1 K) (by kernel_rfl) λu0 X hb1 hb2 hp=>by obtain⟨⟨⟨b0,_⟩,r0⟩,a,b,_⟩:=X;obtain⟨N,h⟩:=h [u0] b0 r0 a b hb1.1 hp;exact⟨N,Eq.trans (by kernel_rfl) (h N (Nat.le_refl N))⟩
def ZW:dj Tryz.prog 68 Aa:=ZV cW.ok
def Hb:ba:=⟨[⟨.sl 5 (.int .u8),false,false⟩],[⟨.pair (.int .i64) (.pair (.int .i64) (.sl 3 (.int .i64))),true,false⟩,⟨.sl 3 (.int .i64),false,false⟩]⟩
def Ac:aQ:=⟨Hb,none,λX=>((),((gr.g X.1).1,((gr.g X.1).2,())))⟩
def Hc:Gm:=addV (addV (addN aY 54 zm) 56 z8) 68 Aa
def ZX:ao Tryz.prog Hc:=(((ao.nil).addN PU).addV Zw (by kernel_rfl)).addV ZW (by kernel_rfl)
def ZY:ab:=⟨[],[],[],[],[]⟩
def ZZ(a:List Int):St:=bu Hb.ps (a,())
def f27s1(a b:LI)(c d:Int):St:=af [(2,xb 2),(3,xo 1000192)] [(2,(27,[yi c,yi d,.own 20000130]))] [(1000192,(⟨3,.int .i64,a,true,false⟩:ae)),(20000130,(⟨3,.int .i64,b,true,false⟩:ae))]
def f27l1:ab:=⟨[2,3],[2],[],[],[(⟨false,3,0⟩,1000192),(⟨true,2,2⟩,20000130)]⟩
def f27B:Nat->Option ab:=aA [(1000000,f27l1)]
abbrev f27j{J:Type}(N n:Nat)(V:St)(l:ab)(K:KT J):Option J:=an Hc aZ f27B N (aT 99 (a7 Tryz.f27) n) .n V (ay (some l) K)
def f27t0 N a (K:KT J):f27j N 1 (ZZ a) ZY K =
 gr.Z0 N a (λb c d e=>K .ret (f27s1 b c d e)):=by kernel_rfl
def f27ok(h:gr.Spec):aw Tryz.prog 27 Ac :=
 bA Tryz.func27 a8 ZX (λN X K=>f27t0 N X.1 K) (by kernel_rfl) λX hb hp=>by obtain⟨a,_⟩:=X;obtain⟨N,h⟩:=h a hb.1;exact⟨N,Eq.trans (by kernel_rfl) (h N (Nat.le_refl N))⟩
def e27ok:aw Tryz.prog 27 Ac:=f27ok gr.ok
def He:ba:=⟨[⟨.int .i64,false,false⟩,⟨.int .i64,false,false⟩,⟨.int .i64,false,false⟩],[⟨.bool,false,false⟩]⟩
def oS:aQ:=⟨He,none,λX=>((),((f9.g X.1 X.2.1 X.2.2.1),()))⟩
def Hf:Gm:=aY
def f91GOk:ao Tryz.prog Hf:=ao.nil
def f91lE:ab:=⟨[],[],[],[],[]⟩
def f91s0(a b c:Int):St:=bu He.ps (a,(b,(c,())))
def f91s1(a:Bool):St:=af [(6,xB a)] [] []
def f91l1:ab:=⟨[6],[],[],[],[]⟩
def f91B:Nat->Option ab:=aA [(1000000,f91l1)]
abbrev f91j{J:Type}(N n:Nat)(V:St)(l:ab)(K:KT J):Option J:=an Hf aZ f91B N (aT 99 (a7 Tryz.f91) n) .n V (ay (some l) K)
def f91t0 N a b c (K:KT J):f91j N 1 (f91s0 a b c) f91lE K =
 f9.Z0 N a b c (λd=>K .ret (f91s1 d)):=by kernel_rfl
def f91ok(h:f9.Spec):aw Tryz.prog 91 oS :=
 bA Tryz.func91 a8 f91GOk (λN X K=>f91t0 N X.1 X.2.1 X.2.2.1 K) (by kernel_rfl) λX hb hp=>by obtain⟨a,b,c,_⟩:=X;obtain⟨N,h⟩:=h a b c;exact⟨N,Eq.trans (by kernel_rfl) (h N (Nat.le_refl N))⟩
def uD:aw Tryz.prog 91 oS:=f91ok f9.ok
def Hg:ba:=⟨[⟨.int .i64,false,false⟩],[⟨.bool,false,false⟩]⟩
def Ad:aQ:=⟨Hg,none,λX=>((),((gb.g X.1),()))⟩
def Hh:Gm:=aI aY 91 oS
def f142GOk:ao Tryz.prog Hh:=(ao.nil).add uD (by kernel_rfl)
def f142lE:ab:=⟨[],[],[],[],[]⟩
def f142s0(a:Int):St:=bu Hg.ps (a,())
def f142s1(a:Bool):St:=af [(2,xB a)] [] []
def f142l1:ab:=⟨[2],[],[],[],[]⟩
def f142B:Nat->Option ab:=aA [(1000000,f142l1)]
abbrev f142j{J:Type}(N n:Nat)(V:St)(l:ab)(K:KT J):Option J:=an Hh aZ f142B N (aT 99 (a7 Tryz.f142) n) .n V (ay (some l) K)
def f142t0 N a (K:KT J):f142j N 1 (f142s0 a) f142lE K =
 gb.Z0 N a (λb=>K .ret (f142s1 b)):=by kernel_rfl
def f142ok(h:gb.Spec):aw Tryz.prog 142 Ad :=
 bA Tryz.func142 a8 f142GOk (λN X K=>f142t0 N X.1 K) (by kernel_rfl) λX hb hp=>by obtain⟨a,_⟩:=X;obtain⟨N,h⟩:=h a;exact⟨N,Eq.trans (by kernel_rfl) (h N (Nat.le_refl N))⟩
def e142ok:aw Tryz.prog 142 Ad:=f142ok gb.ok
def Hi:ba:=⟨[⟨.sl 3 (.int .i64),false,false⟩,⟨.fnc 142,false,false⟩],[⟨.int .i64,false,false⟩]⟩
def Ae:aQ:=⟨Hi,none,λX=>((),((fc.g X.1 X.2.1),()))⟩
def Hj:Gm:=aI aY 142 Ad
def f174GOk:ao Tryz.prog Hj:=(ao.nil).add e142ok (by kernel_rfl)
def f174lE:ab:=⟨[],[],[],[],[]⟩
def f174s0(a:LI)(b:Unit):St:=bu Hi.ps (a,(b,()))
def Hl(a:LI):St:=af [(0,.c (.sn 3 tI a none)),(1,.c (.fn 142 []))] [] []
def f174l1:ab:=⟨[0,1],[],[],[],[]⟩
def uE(a:LI)(b d:Int):St:=af [(0,.c (.sn 3 tI a none)),(1,.c (.fn 142 [])),(7,xi b),(8,xi d)] [] []
def Hm:ab:=⟨[0,1,7,8],[],[],[],[]⟩
def rz :St:=af [] [] []
def Af:ab:=⟨[],[],[],[],[]⟩
def oT(a:Int):St:=af [(4,xi a)] [] []
def f174l4:ab:=⟨[4],[],[],[],[]⟩
def f174B:Nat->Option ab:=aA [(0,Af),(1000000,f174l4)]
abbrev uF{J:Type}(N n:Nat)(V:St)(l:ab)(K:KT J):Option J:=an Hj aZ f174B N (aT 99 (a7 Tryz.f174) n) .n V (ay (some l) K)
def f174t1 N a b (K:KT J):uF N 2 (f174s0 a b) f174l1 K =
 fc.Z1 N a b (λa=>K .nrm (Hl a)):=by kernel_rfl
def f174t4 N a (K:KT J):uF N 9 (Hl a) Hm K =
 fc.Z4 N a (λa b c=>K .nrm (uE a b c)):=by kernel_rfl
def f174t7 N a b c (K:KT J):uF N 37 (uE a b c) Hm K =
 fc.Z7 N a b c (λa b c=>K .nrm (uE a b c)) (K (.exit 0) rz) (λd=>K .ret (oT d)):=by kernel_rfl
def f174t6L N (K:KT J):=g8 K (fc.Z6L N (K (.exit 0) rz) (λa=>K .ret (oT a))) (λb c d k=>fc.Z7 N b c d k (K (.exit 0) rz) (λa=>K .ret (oT a))) (λF b c d=>f174t7 N b c d _) (by kernel_rfl)
def f174t6 N a b c (K:KT J):=vL (uE a b c) (f174t6L N (jK Af K) N a b c) (by kernel_rfl)
def f174t5 N a b c (K:KT J):=vB 0 Af K (fc.Z5 N a b c (K .nrm rz) (λd=>K .ret (oT d))) (f174t6 N a b c _) (by kernel_rfl)
def f174t3 N a (K:KT J):=vQ (λk=>fc.Z4 N a k) (f174t4 N a _) (cF λa b c=>f174t5 N a b c K)
def f174t8 N  (K:KT J):uF N 7 rz f174lE K =
 fc.Z8 N (λa=>K .ret (oT a)):=by kernel_rfl
def f174t2 N a (K:KT J):=vQ (λk=>fc.Z3 N a k (λb=>K .ret (oT b))) (f174t3 N a _) (f174t8 N K)
def f174t0 N a b (K:KT J):=vQ (λk=>fc.Z1 N a b k) (f174t1 N a b _) (funext λa=>f174t2 N a K)
def f174ok(h:fc.Spec):aw Tryz.prog 174 Ae :=
 bA Tryz.func174 a8 f174GOk (λN X K=>f174t0 N X.1 X.2.1 K) (by kernel_rfl) λX hb hp=>by obtain⟨a,b,_⟩:=X;obtain⟨N,h⟩:=h a b hb.1;exact⟨N,Eq.trans (by kernel_rfl) (h N (Nat.le_refl N))⟩
def e174ok:aw Tryz.prog 174 Ae:=f174ok fc.ok
def Hn:ba:=⟨[⟨.sl 3 (.int .i64),false,false⟩,⟨.fnc 142,false,false⟩],[⟨.bool,false,false⟩]⟩
def Ag:aQ:=⟨Hn,none,λX=>((),((kH.g X.1 X.2.1),()))⟩
def Ho:Gm:=aI aY 174 Ae
def f141GOk:ao Tryz.prog Ho:=(ao.nil).add e174ok (by kernel_rfl)
def f141lE:ab:=⟨[],[],[],[],[]⟩
def f141s0(a:LI)(b:Unit):St:=bu Hn.ps (a,(b,()))
def f141s1(a:Bool):St:=af [(4,xB a)] [] []
def f141l1:ab:=⟨[4],[],[],[],[]⟩
def f141B:Nat->Option ab:=aA [(1000000,f141l1)]
abbrev f141j{J:Type}(N n:Nat)(V:St)(l:ab)(K:KT J):Option J:=an Ho aZ f141B N (aT 99 (a7 Tryz.f141) n) .n V (ay (some l) K)
def f141t0 N a b (K:KT J):f141j N 1 (f141s0 a b) f141lE K =
 kH.Z0 N a b (λc=>K .ret (f141s1 c)):=by kernel_rfl
def f141ok(h:kH.Spec):aw Tryz.prog 141 Ag :=
 bA Tryz.func141 a8 f141GOk (λN X K=>f141t0 N X.1 X.2.1 K) (by kernel_rfl) λX hb hp=>by obtain⟨a,b,_⟩:=X;obtain⟨N,h⟩:=h a b hb.1;exact⟨N,Eq.trans (by kernel_rfl) (h N (Nat.le_refl N))⟩
def e141ok:aw Tryz.prog 141 Ag:=f141ok kH.ok
def Hp:ba:=⟨[⟨.pair (.int .i64) (.pair (.int .i64) (.sl 3 (.int .i64))),true,false⟩],[⟨.bool,false,false⟩]⟩
def Ah:aQ:=⟨Hp,none,λX=>((),((kI.g X.1),()))⟩
def Hq:Gm:=aI (aI aY 91 oS) 141 Ag
def f102GOk:ao Tryz.prog Hq:=((ao.nil).add uD (by kernel_rfl)).add e141ok (by kernel_rfl)
def f102lE:ab:=⟨[],[],[],[],[]⟩
def f102s0(a:MT):St:=bu Hp.ps (a,())
def f102s1(a:Bool):St:=af [(2,xB a)] [] []
def f102l1:ab:=⟨[2],[],[],[],[]⟩
def f102B:Nat->Option ab:=aA [(1000000,f102l1)]
abbrev f102j{J:Type}(N n:Nat)(V:St)(l:ab)(K:KT J):Option J:=an Hq aZ f102B N (aT 99 (a7 Tryz.f102) n) .n V (ay (some l) K)
def f102t0 N a (K:KT J):f102j N 1 (f102s0 a) f102lE K =
 kI.Z0 N a (λb=>K .ret (f102s1 b)):=by kernel_rfl
def f102ok(h:kI.Spec):aw Tryz.prog 102 Ah :=
 bA Tryz.func102 a8 f102GOk (λN X K=>f102t0 N X.1 K) (by kernel_rfl) λX hb hp=>by obtain⟨a,_⟩:=X;obtain⟨N,h⟩:=h a hb.1;exact⟨N,Eq.trans (by kernel_rfl) (h N (Nat.le_refl N))⟩
def e102ok:aw Tryz.prog 102 Ah:=f102ok kI.ok
def Hr:ba:=⟨[⟨.pair (.int .i64) (.pair (.int .i64) (.sl 3 (.int .i64))),true,false⟩,⟨.int .i64,false,false⟩,⟨.int .i64,false,false⟩],[⟨.int .i64,false,false⟩]⟩
def oU:aQ:=⟨Hr,(some λX=>cS.P X.1 X.2.1 X.2.2.1),λX=>((),((cS.g X.1 X.2.1 X.2.2.1),()))⟩
def Hs:Gm:=aY
def f83GOk:ao Tryz.prog Hs:=ao.nil
def f83lE:ab:=⟨[],[],[],[],[]⟩
def f83s0(a:MT)(b c:Int):St:=bu Hr.ps (a,(b,(c,())))
def f83s1(a:Int):St:=af [(6,xi a)] [] []
def f83l1:ab:=⟨[6],[],[],[],[]⟩
def f83B:Nat->Option ab:=aA [(1000000,f83l1)]
abbrev f83j{J:Type}(N n:Nat)(V:St)(l:ab)(K:KT J):Option J:=an Hs aZ f83B N (aT 99 (a7 Tryz.f83) n) .n V (ay (some l) K)
def f83t0 N a b c (K:KT J):f83j N 1 (f83s0 a b c) f83lE K =
 cS.Z0 N a b c (λd=>K .ret (f83s1 d)):=by kernel_rfl
def f83ok(h:cS.Spec):aw Tryz.prog 83 oU :=
 bA Tryz.func83 a8 f83GOk (λN X K=>f83t0 N X.1 X.2.1 X.2.2.1 K) (by kernel_rfl) λX hb hp=>by obtain⟨a,b,c,_⟩:=X;obtain⟨N,h⟩:=h a b c hb.1 hp;exact⟨N,Eq.trans (by kernel_rfl) (h N (Nat.le_refl N))⟩
def uG:aw Tryz.prog 83 oU:=f83ok cS.ok
def Ht:ba:=⟨[⟨.int .i64,false,false⟩,⟨.int .i64,false,false⟩],[⟨.int .i64,false,false⟩]⟩
def Ai:aQ:=⟨Ht,(some λX=>cX.P X.1 X.2.1),λX=>((),((cX.g X.1 X.2.1),()))⟩
def Hu:Gm:=aY
def f143GOk:ao Tryz.prog Hu:=ao.nil
def f143lE:ab:=⟨[],[],[],[],[]⟩
def f143s0(a b:Int):St:=bu Ht.ps (a,(b,()))
def uH(a b:Int):St:=af [(0,xi a),(1,xi b)] [] []
def Hv:ab:=⟨[0,1],[],[],[],[]⟩
def rA(a:Int):St:=af [(0,xi a)] [] []
def Aj:ab:=⟨[0],[],[],[],[]⟩
def f143s3(a:Int):St:=af [(4,xi a)] [] []
def f143l3:ab:=⟨[4],[],[],[],[]⟩
def f143B:Nat->Option ab:=aA [(0,Aj),(1000000,f143l3)]
abbrev Ak{J:Type}(N n:Nat)(V:St)(l:ab)(K:KT J):Option J:=an Hu aZ f143B N (aT 99 (a7 Tryz.f143) n) .n V (ay (some l) K)
def f143t1 N a b (K:KT J):Ak N 2 (f143s0 a b) Hv K =
 cX.Z1 N a b (λa b=>K .nrm (uH a b)):=by kernel_rfl
def f143t5 N a b (K:KT J):Ak N 17 (uH a b) Hv K =
 cX.Z5 N a b (λa b=>K .nrm (uH a b)) (λa=>K (.exit 0) (rA a)):=by kernel_rfl
def f143t4L N (K:KT J):=tf K (cX.Z4L N (λa=>K (.exit 0) (rA a))) (λa b k=>cX.Z5 N a b k (λa=>K (.exit 0) (rA a))) (λF a b=>f143t5 N a b _) (by kernel_rfl)
def f143t4 N a b (K:KT J):=vL (uH a b) (f143t4L N (jK Aj K) N a b) (by kernel_rfl)
def f143t3 N a b (K:KT J):=vB 0 Aj K (cX.Z3 N a b (λa=>K .nrm (rA a))) (f143t4 N a b _) (by kernel_rfl)
def f143t6 N a (K:KT J):Ak N 7 (rA a) f143lE K =
 cX.Z6 N a (λb=>K .ret (f143s3 b)):=by kernel_rfl
def f143t2 N a b (K:KT J):=vQ (λk=>cX.Z3 N a b k) (f143t3 N a b _) (funext λa=>f143t6 N a K)
def f143t0 N a b (K:KT J):=vQ (λk=>cX.Z1 N a b k) (f143t1 N a b _) (cV λa b=>f143t2 N a b K)
def f143ok(h:cX.Spec):aw Tryz.prog 143 Ai :=
 bA Tryz.func143 a8 f143GOk (λN X K=>f143t0 N X.1 X.2.1 K) (by kernel_rfl) λX hb hp=>by obtain⟨a,b,_⟩:=X;obtain⟨N,h⟩:=h a b hp;exact⟨N,Eq.trans (by kernel_rfl) (h N (Nat.le_refl N))⟩
def e143ok:aw Tryz.prog 143 Ai:=f143ok cX.ok
def Hw:ba:=⟨[⟨.pair (.int .i64) (.pair (.int .i64) (.sl 3 (.int .i64))),true,false⟩],[⟨.sl 3 (.int .i64),false,true⟩]⟩
def Al:aQ:=⟨Hw,(some λX=>aJ.P X.1),λX=>((),((aJ.g X.1),()))⟩
def Hx:Gm:=aI (aI aY 83 oU) 143 Ai
def f103GOk:ao Tryz.prog Hx:=((ao.nil).add uG (by kernel_rfl)).add e143ok (by kernel_rfl)
def f103lE:ab:=⟨[],[],[],[],[]⟩
def f103s0(a:MT):St:=bu Hw.ps (a,())
def Hy(a b:Int)(c:LI):St:=af [(1,xb 1)] [(1,(27,[yi a,yi b,.sn 3 tI c none]))] []
def f103l1:ab:=⟨[1],[1],[],[],[]⟩
def Hz(a b:LI)(c d:Int)(e:LI):St:=af [(1,xb 1),(3,xo 1000192),(4,xo 1000256)] [(1,(27,[yi c,yi d,.sn 3 tI e none]))] [(1000192,(⟨3,.int .i64,a,true,false⟩:ae)),(1000256,(⟨3,.int .i64,b,true,false⟩:ae))]
def f103l2:ab:=⟨[1,3,4],[1],[],[],[(⟨false,3,0⟩,1000192),(⟨false,4,0⟩,1000256)]⟩
def HA(a b c:LI)(d e:Int)(f:LI):St:=af [(1,xb 1),(3,xo 1000192),(4,xo 1000256),(5,xo 1000320)] [(1,(27,[yi d,yi e,.sn 3 tI f none]))] [(1000192,(⟨3,.int .i64,a,true,false⟩:ae)),(1000256,(⟨3,.int .i64,b,true,false⟩:ae)),(1000320,(⟨3,.int .i64,c,true,false⟩:ae))]
def f103l3:ab:=⟨[1,3,4,5],[1],[],[],[(⟨false,3,0⟩,1000192),(⟨false,4,0⟩,1000256),(⟨false,5,0⟩,1000320)]⟩
def gG(a b c:LI)(d e f g:Int)(h:LI):St:=af [(1,xb 1),(3,xo 1000192),(4,xo 1000256),(5,xo 1000320),(34,xi d),(35,xi e)] [(1,(27,[yi f,yi g,.sn 3 tI h none]))] [(1000192,(⟨3,.int .i64,a,true,false⟩:ae)),(1000256,(⟨3,.int .i64,b,true,false⟩:ae)),(1000320,(⟨3,.int .i64,c,true,false⟩:ae))]
def lL:ab:=⟨[1,3,4,5,34,35],[1],[],[],[(⟨false,3,0⟩,1000192),(⟨false,4,0⟩,1000256),(⟨false,5,0⟩,1000320)]⟩
def HB(a b c:LI)(d e:Int)(f:Bool)(g h:Int)(i:LI):St:=af [(1,xb 1),(3,xo 1000192),(4,xo 1000256),(5,xo 1000320),(34,xi d),(35,xi e),(36,xB f)] [(1,(27,[yi g,yi h,.sn 3 tI i none]))] [(1000192,(⟨3,.int .i64,a,true,false⟩:ae)),(1000256,(⟨3,.int .i64,b,true,false⟩:ae)),(1000320,(⟨3,.int .i64,c,true,false⟩:ae))]
def f103l5:ab:=⟨[1,3,4,5,34,35,36],[1],[],[],[(⟨false,3,0⟩,1000192),(⟨false,4,0⟩,1000256),(⟨false,5,0⟩,1000320)]⟩
def oV(a b c:LI)(d e f g h:Int)(i:LI):St:=af [(1,xb 1),(3,xo 1000192),(4,xo 1000256),(5,xo 1000320),(6,xi d),(34,xi e),(35,xi f)] [(1,(27,[yi g,yi h,.sn 3 tI i none]))] [(1000192,(⟨3,.int .i64,a,true,false⟩:ae)),(1000256,(⟨3,.int .i64,b,true,false⟩:ae)),(1000320,(⟨3,.int .i64,c,true,false⟩:ae))]
def Am:ab:=⟨[1,3,4,5,6,34,35],[1],[],[],[(⟨false,3,0⟩,1000192),(⟨false,4,0⟩,1000256),(⟨false,5,0⟩,1000320)]⟩
def lM(a b c d:LI)(e f g h:Int)(i:LI):St:=af [(1,xb 1),(3,xo 1000192),(4,xo 1000256),(5,xo 1000320),(7,xo 1000448),(34,xi e),(35,xi f)] [(1,(27,[yi g,yi h,.sn 3 tI i none]))] [(1000192,(⟨3,.int .i64,a,true,false⟩:ae)),(1000256,(⟨3,.int .i64,b,true,false⟩:ae)),(1000320,(⟨3,.int .i64,c,true,false⟩:ae)),(1000448,(⟨3,.int .i64,d,true,false⟩:ae))]
def uI:ab:=⟨[1,3,4,5,7,34,35],[1],[],[],[(⟨false,3,0⟩,1000192),(⟨false,4,0⟩,1000256),(⟨false,5,0⟩,1000320),(⟨false,7,0⟩,1000448)]⟩
def ik(a b c d:LI)(e f g h i:Int)(j:LI):St:=af [(1,xb 1),(3,xo 1000192),(4,xo 1000256),(5,xo 1000320),(7,xo 1000448),(8,xi e),(34,xi f),(35,xi g)] [(1,(27,[yi h,yi i,.sn 3 tI j none]))] [(1000192,(⟨3,.int .i64,a,true,false⟩:ae)),(1000256,(⟨3,.int .i64,b,true,false⟩:ae)),(1000320,(⟨3,.int .i64,c,true,false⟩:ae)),(1000448,(⟨3,.int .i64,d,true,false⟩:ae))]
def lN:ab:=⟨[1,3,4,5,7,8,34,35],[1],[],[],[(⟨false,3,0⟩,1000192),(⟨false,4,0⟩,1000256),(⟨false,5,0⟩,1000320),(⟨false,7,0⟩,1000448)]⟩
def HC(a b c d:LI)(e f g h i j:Int)(l:LI):St:=af [(1,xb 1),(3,xo 1000192),(4,xo 1000256),(5,xo 1000320),(7,xo 1000448),(8,xi e),(9,xi f),(34,xi g),(35,xi h)] [(1,(27,[yi i,yi j,.sn 3 tI l none]))] [(1000192,(⟨3,.int .i64,a,true,false⟩:ae)),(1000256,(⟨3,.int .i64,b,true,false⟩:ae)),(1000320,(⟨3,.int .i64,c,true,false⟩:ae)),(1000448,(⟨3,.int .i64,d,true,false⟩:ae))]
def f103l9:ab:=⟨[1,3,4,5,7,8,9,34,35],[1],[],[],[(⟨false,3,0⟩,1000192),(⟨false,4,0⟩,1000256),(⟨false,5,0⟩,1000320),(⟨false,7,0⟩,1000448)]⟩
def jn(a b c d:LI)(e f g h i j l m:Int)(o:LI):St:=af [(1,xb 1),(3,xo 1000192),(4,xo 1000256),(5,xo 1000320),(7,xo 1000448),(8,xi e),(9,xi f),(34,xi g),(35,xi h),(62,xi i),(63,xi j)] [(1,(27,[yi l,yi m,.sn 3 tI o none]))] [(1000192,(⟨3,.int .i64,a,true,false⟩:ae)),(1000256,(⟨3,.int .i64,b,true,false⟩:ae)),(1000320,(⟨3,.int .i64,c,true,false⟩:ae)),(1000448,(⟨3,.int .i64,d,true,false⟩:ae))]
def oW:ab:=⟨[1,3,4,5,7,8,9,34,35,62,63],[1],[],[],[(⟨false,3,0⟩,1000192),(⟨false,4,0⟩,1000256),(⟨false,5,0⟩,1000320),(⟨false,7,0⟩,1000448)]⟩
def HD(a b c d:LI)(e f g h i j:Int)(l:Bool)(m o:Int)(p:LI):St:=af [(1,xb 1),(3,xo 1000192),(4,xo 1000256),(5,xo 1000320),(7,xo 1000448),(8,xi e),(9,xi f),(34,xi g),(35,xi h),(62,xi i),(63,xi j),(64,xB l)] [(1,(27,[yi m,yi o,.sn 3 tI p none]))] [(1000192,(⟨3,.int .i64,a,true,false⟩:ae)),(1000256,(⟨3,.int .i64,b,true,false⟩:ae)),(1000320,(⟨3,.int .i64,c,true,false⟩:ae)),(1000448,(⟨3,.int .i64,d,true,false⟩:ae))]
def f103l11:ab:=⟨[1,3,4,5,7,8,9,34,35,62,63,64],[1],[],[],[(⟨false,3,0⟩,1000192),(⟨false,4,0⟩,1000256),(⟨false,5,0⟩,1000320),(⟨false,7,0⟩,1000448)]⟩
def HE(a b c d:LI)(e f g h i j l m o:Int)(p:LI):St:=af [(1,xb 1),(3,xo 1000192),(4,xo 1000256),(5,xo 1000320),(7,xo 1000448),(8,xi e),(9,xi f),(10,xi g),(34,xi h),(35,xi i),(62,xi j),(63,xi l)] [(1,(27,[yi m,yi o,.sn 3 tI p none]))] [(1000192,(⟨3,.int .i64,a,true,false⟩:ae)),(1000256,(⟨3,.int .i64,b,true,false⟩:ae)),(1000320,(⟨3,.int .i64,c,true,false⟩:ae)),(1000448,(⟨3,.int .i64,d,true,false⟩:ae))]
def f103l12:ab:=⟨[1,3,4,5,7,8,9,10,34,35,62,63],[1],[],[],[(⟨false,3,0⟩,1000192),(⟨false,4,0⟩,1000256),(⟨false,5,0⟩,1000320),(⟨false,7,0⟩,1000448)]⟩
def uJ(a b c d:LI)(e f g h i j l m o p q:Int)(r:LI):St:=af [(1,xb 1),(3,xo 1000192),(4,xo 1000256),(5,xo 1000320),(7,xo 1000448),(8,xi e),(9,xi f),(10,xi g),(11,xi h),(12,xi i),(34,xi j),(35,xi l),(62,xi m),(63,xi o)] [(1,(27,[yi p,yi q,.sn 3 tI r none]))] [(1000192,(⟨3,.int .i64,a,true,false⟩:ae)),(1000256,(⟨3,.int .i64,b,true,false⟩:ae)),(1000320,(⟨3,.int .i64,c,true,false⟩:ae)),(1000448,(⟨3,.int .i64,d,true,false⟩:ae))]
def HF:ab:=⟨[1,3,4,5,7,8,9,10,11,12,34,35,62,63],[1],[],[],[(⟨false,3,0⟩,1000192),(⟨false,4,0⟩,1000256),(⟨false,5,0⟩,1000320),(⟨false,7,0⟩,1000448)]⟩
def nk(a b c d:LI)(e f g h i:Int)(j:LI):St:=af [(1,xb 1),(3,xo 1000192),(4,xo 1000256),(5,xo 1000320),(7,xo 1000448),(16,xi e),(34,xi f),(35,xi g)] [(1,(27,[yi h,yi i,.sn 3 tI j none]))] [(1000192,(⟨3,.int .i64,a,true,false⟩:ae)),(1000256,(⟨3,.int .i64,b,true,false⟩:ae)),(1000320,(⟨3,.int .i64,c,true,false⟩:ae)),(1000448,(⟨3,.int .i64,d,true,false⟩:ae))]
def uK:ab:=⟨[1,3,4,5,7,16,34,35],[1],[],[],[(⟨false,3,0⟩,1000192),(⟨false,4,0⟩,1000256),(⟨false,5,0⟩,1000320),(⟨false,7,0⟩,1000448)]⟩
def uL(a b c d:LI)(e f g h i j l:Int)(m:LI):St:=af [(1,xb 1),(3,xo 1000192),(4,xo 1000256),(5,xo 1000320),(7,xo 1000448),(16,xi e),(34,xi f),(35,xi g),(158,xo 1000448),(159,xi h),(160,xi i)] [(1,(27,[yi j,yi l,.sn 3 tI m none]))] [(1000192,(⟨3,.int .i64,a,true,false⟩:ae)),(1000256,(⟨3,.int .i64,b,true,false⟩:ae)),(1000320,(⟨3,.int .i64,c,true,false⟩:ae)),(1000448,(⟨3,.int .i64,d,true,false⟩:ae))]
def HG:ab:=⟨[1,3,4,5,7,16,34,35,158,159,160],[1],[],[],[(⟨false,3,0⟩,1000192),(⟨false,4,0⟩,1000256),(⟨false,5,0⟩,1000320),(⟨false,7,0⟩,1000448)]⟩
def HH(a b c d:LI)(e f g h i j:Int)(l:LI):St:=af [(1,xb 1),(3,xo 1000192),(4,xo 1000256),(5,xo 1000320),(7,xo 1000448),(16,xi e),(19,xi f),(34,xi g),(35,xi h)] [(1,(27,[yi i,yi j,.sn 3 tI l none]))] [(1000192,(⟨3,.int .i64,a,true,false⟩:ae)),(1000256,(⟨3,.int .i64,b,true,false⟩:ae)),(1000320,(⟨3,.int .i64,c,true,false⟩:ae)),(1000448,(⟨3,.int .i64,d,true,false⟩:ae))]
def f103l16:ab:=⟨[1,3,4,5,7,16,19,34,35],[1],[],[],[(⟨false,3,0⟩,1000192),(⟨false,4,0⟩,1000256),(⟨false,5,0⟩,1000320),(⟨false,7,0⟩,1000448)]⟩
def uM(a b c d:LI)(e f g h i j l m:Int)(o:LI):St:=af [(1,xb 1),(3,xo 1000192),(4,xo 1000256),(5,xo 1000320),(7,xo 1000448),(16,xi e),(19,xi f),(34,xi g),(35,xi h),(178,xo 1000448),(179,xi i),(180,xi j)] [(1,(27,[yi l,yi m,.sn 3 tI o none]))] [(1000192,(⟨3,.int .i64,a,true,false⟩:ae)),(1000256,(⟨3,.int .i64,b,true,false⟩:ae)),(1000320,(⟨3,.int .i64,c,true,false⟩:ae)),(1000448,(⟨3,.int .i64,d,true,false⟩:ae))]
def HI:ab:=⟨[1,3,4,5,7,16,19,34,35,178,179,180],[1],[],[],[(⟨false,3,0⟩,1000192),(⟨false,4,0⟩,1000256),(⟨false,5,0⟩,1000320),(⟨false,7,0⟩,1000448)]⟩
def rB(a b c d:LI)(e f g h i:Int)(j:LI):St:=af [(1,xb 1),(3,xo 1000192),(4,xo 1000256),(5,xo 1000320),(7,xo 1000448),(19,xi e),(34,xi f),(35,xi g)] [(1,(27,[yi h,yi i,.sn 3 tI j none]))] [(1000192,(⟨3,.int .i64,a,true,false⟩:ae)),(1000256,(⟨3,.int .i64,b,true,false⟩:ae)),(1000320,(⟨3,.int .i64,c,true,false⟩:ae)),(1000448,(⟨3,.int .i64,d,true,false⟩:ae))]
def An:ab:=⟨[1,3,4,5,7,19,34,35],[1],[],[],[(⟨false,3,0⟩,1000192),(⟨false,4,0⟩,1000256),(⟨false,5,0⟩,1000320),(⟨false,7,0⟩,1000448)]⟩
def uN(a b c d:LI)(e f g h i j l:Int)(m:LI):St:=af [(1,xb 1),(3,xo 1000192),(4,xo 1000256),(5,xo 1000320),(19,xi e),(34,xi f),(35,xi g),(205,xo 1013120),(206,xi h),(207,xi i)] [(1,(27,[yi j,yi l,.sn 3 tI m none]))] [(1000192,(⟨3,.int .i64,a,true,false⟩:ae)),(1000256,(⟨3,.int .i64,b,true,false⟩:ae)),(1000320,(⟨3,.int .i64,c,true,false⟩:ae)),(1013120,(⟨3,.int .i64,d,true,false⟩:ae))]
def HJ:ab:=⟨[1,3,4,5,19,34,35,205,206,207],[1],[],[],[(⟨false,3,0⟩,1000192),(⟨false,4,0⟩,1000256),(⟨false,5,0⟩,1000320),(⟨false,205,0⟩,1013120)]⟩
def oX(a:LI):St:=af [(5,xo 1000320)] [] [(1000320,(⟨3,.int .i64,a,true,false⟩:ae))]
def Ao:ab:=⟨[5],[],[],[],[(⟨false,5,0⟩,1000320)]⟩
def eZ(a:LI):St:=af [(2,xo 1001000128)] [] [(1001000128,(⟨3,.int .i64,a,true,true⟩:ae))]
def f103l21:ab:=⟨[2],[],[⟨⟨false,2,0⟩,30000000,3,.int .i64,true⟩],[],[(⟨false,2,0⟩,1001000128)]⟩
def f103B:Nat->Option ab:=aA [(5,oW),(4,lN),(3,lN),(2,uI),(6,uK),(8,An),(10,lL),(1,lL),(0,Ao),(1000000,f103l21)]
abbrev cR{J:Type}(N n:Nat)(V:St)(l:ab)(K:KT J):Option J:=an Hx aZ f103B N (aT 99 (a7 Tryz.f103) n) .n V (ay (some l) K)
def f103t1 N a (K:KT J):cR N 2 (f103s0 a) f103l1 K =
 aJ.Z1 N a (λb c d=>K .nrm (Hy b c d)):=by kernel_rfl
def f103t3 N a b c (K:KT J):cR N 5 (Hy a b c) f103l2 K =
 aJ.Z3 N a b c (λd e a b c=>K .nrm (Hz d e a b c)):=by kernel_rfl
def f103t5 N a b c d e (K:KT J):cR N 11 (Hz a b c d e) f103l3 K =
 aJ.Z5 N a b c d e (λa b f c d e=>K .nrm (HA a b f c d e)):=by kernel_rfl
def f103t8 N a b c d e f (K:KT J):cR N 39 (HA a b c d e f) lL K =
 aJ.Z8 N a b c d e f (λa b c g h d e f=>K .nrm (gG a b c g h d e f)):=by kernel_rfl
def f103t12 N a b c d e f g h (K:KT J):cR N 279 (gG a b c d e f g h) f103l5 K =
 aJ.Z12 N a b c d e f g h (λa b c d e i f g h=>K .nrm (HB a b c d e i f g h)):=by kernel_rfl
def f103t14 N b c a d e i f g h (K:KT J):cR N 663 (HB b c a d e i f g h) lL K =
 aJ.Z14 N b c a d e i f g h (λb c a d e f g h=>K .nrm (gG b c a d e f g h)) (λa=>K (.exit 0) (oX a)):=by kernel_rfl
def f103t18 N a b c d e f g h (K:KT J):cR N 4503 (gG a b c d e f g h) Am K =
 aJ.Z18 N a b c d e f g h (λa b c i d e f g h=>K .nrm (oV a b c i d e f g h)):=by kernel_rfl
def f103t20 N a b c i d e f g h (K:KT J):cR N 10647 (oV a b c i d e f g h) Am K =
 aJ.Z20 N a b c i d e f g h (λa b c i d e f g h=>K .nrm (oV a b c i d e f g h)) (λa b c d e f g h=>K (.exit 1) (gG a b c d e f g h)):=by kernel_rfl
def f103t22 N a b c d e f g h i (K:KT J):cR N 22935 (oV a b c d e f g h i) Am K =
 aJ.Z22 N a b c d e f g h i (λa b c d e f g h i=>K .nrm (oV a b c d e f g h i)):=by kernel_rfl
def f103t24 N a b c i d e f g h (K:KT J):cR N 47511 (oV a b c i d e f g h) uI K =
 aJ.Z24 N a b c i d e f g h (λa b c j d e f g h=>K .nrm (lM a b c j d e f g h)):=by kernel_rfl
def f103t27 N a b c d e f g h i (K:KT J):cR N 162199 (lM a b c d e f g h i) lN K =
 aJ.Z27 N a b c d e f g h i (λa b c d j e f g h i=>K .nrm (ik a b c d j e f g h i)):=by kernel_rfl
def f103t31 N a b c d j e f g h i (K:KT J):cR N 1145239 (ik a b c d j e f g h i) lN K =
 aJ.Z31 N a b c d j e f g h i (λa b c d j e f g h i=>K .nrm (ik a b c d j e f g h i)) (λa b c d e f g h i=>K (.exit 2) (lM a b c d e f g h i)):=by kernel_rfl
def f103t35 N a b c d e f g h i j (K:KT J):cR N 9009559 (ik a b c d e f g h i j) f103l9 K =
 aJ.Z35 N a b c d e f g h i j (λa b c d e l f g h i j=>K .nrm (HC a b c d e l f g h i j)):=by kernel_rfl
def f103t37 N a b c d e f g h i j l (K:KT J):cR N 21592471 (HC a b c d e f g h i j l) oW K =
 aJ.Z37 N a b c d e f g h i j l (λa b c d e f g h m o i j l=>K .nrm (jn a b c d e f g h m o i j l)):=by kernel_rfl
def f103t41 N a b c d e f g h i j l m o (K:KT J):cR N 147421591 (jn a b c d e f g h i j l m o) f103l11 K =
 aJ.Z41 N a b c d e f g h i j l m o (λa b c d e f g h i j p l m o=>K .nrm (HD a b c d e f g h i j p l m o)):=by kernel_rfl
def f103t43 N a b c d e l f g m o p h i j (K:KT J):cR N 348748183 (HD a b c d e l f g m o p h i j) oW K =
 aJ.Z43 N a b c d e l f g m o p h i j (λa b c d e l f g m o h i j=>K .nrm (jn a b c d e l f g m o h i j)) (λa b c d e f g h i j=>K (.exit 4) (ik a b c d e f g h i j)):=by kernel_rfl
def f103t47 N a b c d e f g h i j l m o (K:KT J):cR N 2362014103 (jn a b c d e f g h i j l m o) f103l12 K =
 aJ.Z47 N a b c d e f g h i j l m o (λa b c d e f p g h i j l m o=>K .nrm (HE a b c d e f p g h i j l m o)):=by kernel_rfl
def f103t49 N a b c d e f g h i j l m o p (K:KT J):cR N 5583239575 (HE a b c d e f g h i j l m o p) HF K =
 aJ.Z49 N a b c d e f g h i j l m o p (λa b c d e f g q r h i j l m o p=>K .nrm (uJ a b c d e f g q r h i j l m o p)):=by kernel_rfl
def f103t51 N a b c d e f p q r g h i j l m o (K:KT J):cR N 12025690519 (uJ a b c d e f p q r g h i j l m o) HF K =
 aJ.Z51 N a b c d e f p q r g h i j l m o (λa b c d e f p q r g h i j l m o=>K .nrm (uJ a b c d e f p q r g h i j l m o)) (λa b c d e f g h i j l m o=>K (.exit 5) (jn a b c d e f g h i j l m o)):=by kernel_rfl
def f103t52 N a b c d e f p q r g h i j l m o (K:KT J):cR N 16320657815 (uJ a b c d e f p q r g h i j l m o) oW K =
 aJ.Z52 N a b c d e f p q r g h i j l m o (λa b c d e f g h i j l m o=>K .nrm (jn a b c d e f g h i j l m o)) (λs=>K .ret (eZ s)):=by kernel_rfl
def f103t50 N a b c d e f p q r g h i j l m o (K:KT J):=vQ (λk=>aJ.Z51 N a b c d e f p q r g h i j l m o k (λa b c d e f g h i j l m o=>K (.exit 5) (jn a b c d e f g h i j l m o))) (f103t51 N a b c d e f p q r g h i j l m o _) (CV λa b c d e f p q r g h i j l m o=>f103t52 N a b c d e f p q r g h i j l m o K)
def f103t48 N a b c d e f g h i j l m o p (K:KT J):=vQ (λk=>aJ.Z49 N a b c d e f g h i j l m o p k) (f103t49 N a b c d e f g h i j l m o p _) (CV λa b c d e f g q r h i j l m o p=>f103t50 N a b c d e f g q r h i j l m o p K)
def f103t46 N a b c d e f g h i j l m o (K:KT J):=vQ (λk=>aJ.Z47 N a b c d e f g h i j l m o k) (f103t47 N a b c d e f g h i j l m o _) (td λa b c d e f p g h i j l m o=>f103t48 N a b c d e f p g h i j l m o K)
def f103t45 N a b c d e f g h i j l m o (K:KT J):=vB 5 oW K (aJ.Z45 N a b c d e f g h i j l m o (λa b c d e f g h i j l m o=>K .nrm (jn a b c d e f g h i j l m o)) (λp=>K .ret (eZ p))) (f103t46 N a b c d e f g h i j l m o _) (by kernel_rfl)
def f103t53 N a b c d e f g h i j l m o (K:KT J):cR N 1019836823 (jn a b c d e f g h i j l m o) oW K =
 aJ.Z53 N a b c d e f g h i j l m o (λa b c d e f g h i j l m o=>K .nrm (jn a b c d e f g h i j l m o)):=by kernel_rfl
def f103t44 N a b c d e f g h i j l m o (K:KT J):=vQ (λk=>aJ.Z45 N a b c d e f g h i j l m o k (λp=>K .ret (eZ p))) (f103t45 N a b c d e f g h i j l m o _) (qw λa b c d e f g h i j l m o=>f103t53 N a b c d e f g h i j l m o K)
def f103t42 N a b c d e l f g m o p h i j (K:KT J):=vQ (λk=>aJ.Z43 N a b c d e l f g m o p h i j k (λa b c d e f g h i j=>K (.exit 4) (ik a b c d e f g h i j))) (f103t43 N a b c d e l f g m o p h i j _) (qw λa b c d e l f g m o h i j=>f103t44 N a b c d e l f g m o h i j K)
def f103t40 N a b c d e f g h i j l m o (K:KT J):=vQ (λk=>aJ.Z41 N a b c d e f g h i j l m o k) (f103t41 N a b c d e f g h i j l m o _) (td λa b c d e f g h i j p l m o=>f103t42 N a b c d e f g h i j p l m o K)
def f103t39L N (K:KT J):=yk K (aJ.Z39L N (λa b c d e f g h i j=>K (.exit 4) (ik a b c d e f g h i j)) (λl=>K .ret (eZ l))) (λa b c d e m f g o p h i j k=>aJ.Z40 N a b c d e m f g o p h i j k (λa b c d e f g h i j=>K (.exit 4) (ik a b c d e f g h i j)) (λl=>K .ret (eZ l))) (λF a b c d e m f g o p h i j=>f103t40 N a b c d e m f g o p h i j _) (by kernel_rfl)
def f103t39 N a b c d e f g h i j l m o (K:KT J):=vL (jn a b c d e f g h i j l m o) (f103t39L N (jK lN K) N a b c d e f g h i j l m o) (by kernel_rfl)
def f103t38 N a b c d e l f g m o h i j (K:KT J):=vB 4 lN K (aJ.Z38 N a b c d e l f g m o h i j (λa b c d e f g h i j=>K .nrm (ik a b c d e f g h i j)) (λp=>K .ret (eZ p))) (f103t39 N a b c d e l f g m o h i j _) (by kernel_rfl)
def f103t36 N a b c d e f g h i j l (K:KT J):=vQ (λk=>aJ.Z37 N a b c d e f g h i j l k) (f103t37 N a b c d e f g h i j l _) (qw λa b c d e f g h m o i j l=>f103t38 N a b c d e f g h m o i j l K)
def f103t34 N a b c d e f g h i j (K:KT J):=vQ (λk=>aJ.Z35 N a b c d e f g h i j k) (f103t35 N a b c d e f g h i j _) (fQ λa b c d e l f g h i j=>f103t36 N a b c d e l f g h i j K)
def f103t33 N a b c d e f g h i j (K:KT J):=vB 3 lN K (aJ.Z33 N a b c d e f g h i j (λa b c d e f g h i j=>K .nrm (ik a b c d e f g h i j)) (λl=>K .ret (eZ l))) (f103t34 N a b c d e f g h i j _) (by kernel_rfl)
def f103t54 N a b c d e f g h i j (K:KT J):cR N 3766679 (ik a b c d e f g h i j) lN K =
 aJ.Z54 N a b c d e f g h i j (λa b c d e f g h i j=>K .nrm (ik a b c d e f g h i j)):=by kernel_rfl
def f103t32 N a b c d e f g h i j (K:KT J):=vQ (λk=>aJ.Z33 N a b c d e f g h i j k (λl=>K .ret (eZ l))) (f103t33 N a b c d e f g h i j _) (dA λa b c d e f g h i j=>f103t54 N a b c d e f g h i j K)
def f103t30 N a b c d j e f g h i (K:KT J):=vQ (λk=>aJ.Z31 N a b c d j e f g h i k (λa b c d e f g h i=>K (.exit 2) (lM a b c d e f g h i))) (f103t31 N a b c d j e f g h i _) (dA λa b c d j e f g h i=>f103t32 N a b c d j e f g h i K)
def f103t29L N (K:KT J):=jC K (aJ.Z29L N (λa b c d e f g h i=>K (.exit 2) (lM a b c d e f g h i)) (λj=>K .ret (eZ j))) (λa b c d l e f g h i k=>aJ.Z30 N a b c d l e f g h i k (λa b c d e f g h i=>K (.exit 2) (lM a b c d e f g h i)) (λj=>K .ret (eZ j))) (λF a b c d l e f g h i=>f103t30 N a b c d l e f g h i _) (by kernel_rfl)
def f103t29 N a b c d e f g h i j (K:KT J):=vL (ik a b c d e f g h i j) (f103t29L N (jK uI K) N a b c d e f g h i j) (by kernel_rfl)
def f103t28 N a b c d j e f g h i (K:KT J):=vB 2 uI K (aJ.Z28 N a b c d j e f g h i (λa b c d e f g h i=>K .nrm (lM a b c d e f g h i)) (λl=>K .ret (eZ l))) (f103t29 N a b c d j e f g h i _) (by kernel_rfl)
def f103t26 N a b c d e f g h i (K:KT J):=vQ (λk=>aJ.Z27 N a b c d e f g h i k) (f103t27 N a b c d e f g h i _) (dA λa b c d j e f g h i=>f103t28 N a b c d j e f g h i K)
def f103t56 N a b c d e f g h i (K:KT J):cR N 194967 (lM a b c d e f g h i) uK K =
 aJ.Z56 N a b c d e f g h i (λa b c d j e f g h i=>K .nrm (nk a b c d j e f g h i)):=by kernel_rfl
def f103t59 N a b c d e f g h i j (K:KT J):cR N 653719 (nk a b c d e f g h i j) HG K =
 aJ.Z59 N a b c d e f g h i j (λa b c d e f g l m h i j=>K .nrm (uL a b c d e f g l m h i j)):=by kernel_rfl
def f103t62 N a b c d e f g l m h i j (K:KT J):cR N 2488727 (uL a b c d e f g l m h i j) HG K =
 aJ.Z62 N a b c d e f g l m h i j (λa b c d e f g l m h i j=>K .nrm (uL a b c d e f g l m h i j)) (λa b c d e f g h i j=>K (.exit 6) (nk a b c d e f g h i j)):=by kernel_rfl
def f103t61L N (K:KT J):=qy K (aJ.Z61L N (λa b c d e f g h i j=>K (.exit 6) (nk a b c d e f g h i j))) (λa b c d e f g l m h i j k=>aJ.Z62 N a b c d e f g l m h i j k (λa b c d e f g h i j=>K (.exit 6) (nk a b c d e f g h i j))) (λF a b c d e f g l m h i j=>f103t62 N a b c d e f g l m h i j _) (by kernel_rfl)
def f103t61 N a b c d e f g h i j l m (K:KT J):=vL (uL a b c d e f g h i j l m) (f103t61L N (jK uK K) N a b c d e f g h i j l m) (by kernel_rfl)
def f103t60 N a b c d e f g l m h i j (K:KT J):=vB 6 uK K (aJ.Z60 N a b c d e f g l m h i j (λa b c d e f g h i j=>K .nrm (nk a b c d e f g h i j))) (f103t61 N a b c d e f g l m h i j _) (by kernel_rfl)
def f103t58 N a b c d e f g h i j (K:KT J):=vQ (λk=>aJ.Z59 N a b c d e f g h i j k) (f103t59 N a b c d e f g h i j _) (og λa b c d e f g l m h i j=>f103t60 N a b c d e f g l m h i j K)
def f103t64 N a b c d e f g h i j (K:KT J):cR N 784791 (nk a b c d e f g h i j) f103l16 K =
 aJ.Z64 N a b c d e f g h i j (λa b c d e l f g h i j=>K .nrm (HH a b c d e l f g h i j)):=by kernel_rfl
def f103t67 N a b c d e f g h i j l (K:KT J):cR N 2619799 (HH a b c d e f g h i j l) HI K =
 aJ.Z67 N a b c d e f g h i j l (λa b c d e f g h m o i j l=>K .nrm (uM a b c d e f g h m o i j l)):=by kernel_rfl
def f103t70 N a b c d l e f g m o h i j (K:KT J):cR N 9959831 (uM a b c d l e f g m o h i j) HI K =
 aJ.Z70 N a b c d l e f g m o h i j (λa b c d l e f g m o h i j=>K .nrm (uM a b c d l e f g m o h i j)) (λa b c d e f g h i j=>K (.exit 8) (rB a b c d e f g h i j)):=by kernel_rfl
def f103t69L N (K:KT J):=yk K (aJ.Z69L N (λa b c d e f g h i j=>K (.exit 8) (rB a b c d e f g h i j))) (λa b c d l e f g m o h i j k=>aJ.Z70 N a b c d l e f g m o h i j k (λa b c d e f g h i j=>K (.exit 8) (rB a b c d e f g h i j))) (λF a b c d l e f g m o h i j=>f103t70 N a b c d l e f g m o h i j _) (by kernel_rfl)
def f103t69 N a b c d e f g h i j l m o (K:KT J):=vL (uM a b c d e f g h i j l m o) (f103t69L N (jK An K) N a b c d e f g h i j l m o) (by kernel_rfl)
def f103t68 N a b c d l e f g m o h i j (K:KT J):=vB 8 An K (aJ.Z68 N a b c d l e f g m o h i j (λa b c d e f g h i j=>K .nrm (rB a b c d e f g h i j))) (f103t69 N a b c d l e f g m o h i j _) (by kernel_rfl)
def f103t66 N a b c d e f g h i j l (K:KT J):=vQ (λk=>aJ.Z67 N a b c d e f g h i j l k) (f103t67 N a b c d e f g h i j l _) (qw λa b c d e f g h m o i j l=>f103t68 N a b c d e f g h m o i j l K)
def f103t72 N a b c j d e f g h i (K:KT J):cR N 3144087 (rB a b c j d e f g h i) HJ K =
 aJ.Z72 N a b c j d e f g h i (λa b c l d e f m o g h i=>K .nrm (uN a b c l d e f m o g h i)):=by kernel_rfl
def f103t75 N a b c i j d e l m f g h (K:KT J):cR N 10484119 (uN a b c i j d e l m f g h) HJ K =
 aJ.Z75 N a b c i j d e l m f g h (λa b c i j d e l m f g h=>K .nrm (uN a b c i j d e l m f g h)) (λa b c d e f g h=>K (.exit 10) (gG a b c d e f g h)):=by kernel_rfl
def f103t74L N (K:KT J):=qy K (aJ.Z74L N (λa b c d e f g h=>K (.exit 10) (gG a b c d e f g h))) (λa b c i j d e l m f g h k=>aJ.Z75 N a b c i j d e l m f g h k (λa b c d e f g h=>K (.exit 10) (gG a b c d e f g h))) (λF a b c i j d e l m f g h=>f103t75 N a b c i j d e l m f g h _) (by kernel_rfl)
def f103t74 N a b c d e f g h i j l m (K:KT J):=vL (uN a b c d e f g h i j l m) (f103t74L N (jK lL K) N a b c d e f g h i j l m) (by kernel_rfl)
def f103t73 N a b c i j d e l m f g h (K:KT J):=vB 10 lL K (aJ.Z73 N a b c i j d e l m f g h (λa b c d e f g h=>K .nrm (gG a b c d e f g h))) (f103t74 N a b c i j d e l m f g h _) (by kernel_rfl)
def f103t71 N a b c j d e f g h i (K:KT J):=vQ (λk=>aJ.Z72 N a b c j d e f g h i k) (f103t72 N a b c j d e f g h i _) (og λa b c l d e f m o g h i=>f103t73 N a b c l d e f m o g h i K)
def f103t65 N a b c d l e f g h i j (K:KT J):=vQ (λk=>aJ.Z66 N a b c d l e f g h i j k) (f103t66 N a b c d l e f g h i j _) (dA λa b c d e f g h i j=>f103t71 N a b c d e f g h i j K)
def f103t63 N a b c d e f g h i j (K:KT J):=vQ (λk=>aJ.Z64 N a b c d e f g h i j k) (f103t64 N a b c d e f g h i j _) (fQ λa b c d e l f g h i j=>f103t65 N a b c d e l f g h i j K)
def f103t57 N a b c d e f g h i j (K:KT J):=vQ (λk=>aJ.Z58 N a b c d e f g h i j k) (f103t58 N a b c d e f g h i j _) (dA λa b c d e f g h i j=>f103t63 N a b c d e f g h i j K)
def f103t55 N a b c d e f g h i (K:KT J):=vQ (λk=>aJ.Z56 N a b c d e f g h i k) (f103t56 N a b c d e f g h i _) (dA λa b c d j e f g h i=>f103t57 N a b c d j e f g h i K)
def f103t25 N a b c d e f g h i (K:KT J):=vQ (λk=>aJ.Z26 N a b c d e f g h i k (λj=>K .ret (eZ j))) (f103t26 N a b c d e f g h i _) (dT λa b c d e f g h i=>f103t55 N a b c d e f g h i K)
def f103t23 N a b c i d e f g h (K:KT J):=vQ (λk=>aJ.Z24 N a b c i d e f g h k) (f103t24 N a b c i d e f g h _) (dT λa b c j d e f g h=>f103t25 N a b c j d e f g h K)
def f103t21 N a b c d e f g h i (K:KT J):=vQ (λk=>aJ.Z22 N a b c d e f g h i k) (f103t22 N a b c d e f g h i _) (dT λa b c d e f g h i=>f103t23 N a b c d e f g h i K)
def f103t19 N a b c i d e f g h (K:KT J):=vQ (λk=>aJ.Z20 N a b c i d e f g h k (λa b c d e f g h=>K (.exit 1) (gG a b c d e f g h))) (f103t20 N a b c i d e f g h _) (dT λa b c i d e f g h=>f103t21 N a b c i d e f g h K)
def f103t17 N a b c d e f g h (K:KT J):=vQ (λk=>aJ.Z18 N a b c d e f g h k) (f103t18 N a b c d e f g h _) (dT λa b c i d e f g h=>f103t19 N a b c i d e f g h K)
def f103t16 N a b c d e f g h (K:KT J):=vB 1 lL K (aJ.Z16 N a b c d e f g h (λa b c d e f g h=>K .nrm (gG a b c d e f g h)) (λi=>K .ret (eZ i))) (f103t17 N a b c d e f g h _) (by kernel_rfl)
def f103t76 N a b c d e f g h (K:KT J):cR N 1943 (gG a b c d e f g h) lL K =
 aJ.Z76 N a b c d e f g h (λa b c d e f g h=>K .nrm (gG a b c d e f g h)):=by kernel_rfl
def f103t15 N a b c d e f g h (K:KT J):=vQ (λk=>aJ.Z16 N a b c d e f g h k (λi=>K .ret (eZ i))) (f103t16 N a b c d e f g h _) (du λa b c d e f g h=>f103t76 N a b c d e f g h K)
def f103t13 N b c a d e i f g h (K:KT J):=vQ (λk=>aJ.Z14 N b c a d e i f g h k (λa=>K (.exit 0) (oX a))) (f103t14 N b c a d e i f g h _) (du λb c a d e f g h=>f103t15 N b c a d e f g h K)
def f103t11 N a b c d e f g h (K:KT J):=vQ (λk=>aJ.Z12 N a b c d e f g h k) (f103t12 N a b c d e f g h _) (dT λa b c d e i f g h=>f103t13 N a b c d e i f g h K)
def f103t10L N (K:KT J):=jB K (aJ.Z10L N (λa=>K (.exit 0) (oX a)) (λb=>K .ret (eZ b))) (λc d a e f g h i k=>aJ.Z11 N c d a e f g h i k (λa=>K (.exit 0) (oX a)) (λb=>K .ret (eZ b))) (λF c d a e f g h i=>f103t11 N c d a e f g h i _) (by kernel_rfl)
def f103t10 N a b c d e f g h (K:KT J):=vL (gG a b c d e f g h) (f103t10L N (jK Ao K) N a b c d e f g h) (by kernel_rfl)
def f103t9 N b c a d e f g h (K:KT J):=vB 0 Ao K (aJ.Z9 N b c a d e f g h (λa=>K .nrm (oX a)) (λi=>K .ret (eZ i))) (f103t10 N b c a d e f g h _) (by kernel_rfl)
def f103t7 N a b c d e f (K:KT J):=vQ (λk=>aJ.Z8 N a b c d e f k) (f103t8 N a b c d e f _) (du λa b c g h d e f=>f103t9 N a b c g h d e f K)
def f103t77 N a (K:KT J):cR N 31 (oX a) f103lE K =
 aJ.Z77 N a (λb=>K .ret (eZ b)):=by kernel_rfl
def f103t6 N b c a d e f (K:KT J):=vQ (λk=>aJ.Z7 N b c a d e f k (λg=>K .ret (eZ g))) (f103t7 N b c a d e f _) (funext λa=>f103t77 N a K)
def f103t4 N a b c d e (K:KT J):=vQ (λk=>aJ.Z5 N a b c d e k) (f103t5 N a b c d e _) (cB λa b f c d e=>f103t6 N a b f c d e K)
def f103t2 N a b c (K:KT J):=vQ (λk=>aJ.Z3 N a b c k) (f103t3 N a b c _) (cn λd e a b c=>f103t4 N d e a b c K)
def f103t0 N a (K:KT J):=vQ (λk=>aJ.Z1 N a k) (f103t1 N a _) (cF λb c d=>f103t2 N b c d K)
def f103ok(h:aJ.Spec):aw Tryz.prog 103 Al :=
 bA Tryz.func103 a8 f103GOk (λN X K=>f103t0 N X.1 K) (by kernel_rfl) λX hb hp=>by obtain⟨a,_⟩:=X;obtain⟨N,h⟩:=h a hb.1 hp;exact⟨N,Eq.trans (by kernel_rfl) (h N (Nat.le_refl N))⟩
def e103ok:aw Tryz.prog 103 Al:=f103ok aJ.ok
def HK:ba:=⟨[⟨.pair (.int .i64) (.pair (.int .i64) (.sl 3 (.int .i64))),true,false⟩],[⟨.bool,false,false⟩]⟩
def nn:aQ:=⟨HK,none,λX=>((),((fB.g X.1),()))⟩
def HL:Gm:=aI (aI aY 102 Ah) 103 Al
def f63GOk:ao Tryz.prog HL:=((ao.nil).add e102ok (by kernel_rfl)).add e103ok (by kernel_rfl)
def f63lE:ab:=⟨[],[],[],[],[]⟩
def f63s0(a:MT):St:=bu HK.ps (a,())
def f63s1(a:Bool):St:=af [(2,xB a)] [] []
def f63l1:ab:=⟨[2],[],[],[],[]⟩
def f63B:Nat->Option ab:=aA [(1000000,f63l1)]
abbrev f63j{J:Type}(N n:Nat)(V:St)(l:ab)(K:KT J):Option J:=an HL aZ f63B N (aT 99 (a7 Tryz.f63) n) .n V (ay (some l) K)
def f63t0 N a (K:KT J):f63j N 1 (f63s0 a) f63lE K =
 fB.Z0 N a (λb=>K .ret (f63s1 b)):=by kernel_rfl
def f63ok(h:fB.Spec):aw Tryz.prog 63 nn :=
 bA Tryz.func63 a8 f63GOk (λN X K=>f63t0 N X.1 K) (by kernel_rfl) λX hb hp=>by obtain⟨a,_⟩:=X;obtain⟨N,h⟩:=h a hb.1;exact⟨N,Eq.trans (by kernel_rfl) (h N (Nat.le_refl N))⟩
def rC:aw Tryz.prog 63 nn:=f63ok fB.ok
def HM:ba:=⟨[⟨.sl 3 (.int .i64),false,false⟩],[⟨.sl 3 (.int .i64),false,false⟩]⟩
def oY:aQ:=⟨HM,(some λX=>cZ.P X.1),λX=>((),((cZ.g X.1),()))⟩
def HN:Gm:=aY
def f69GOk:ao Tryz.prog HN:=ao.nil
def f69lE:ab:=⟨[],[],[],[],[]⟩
def f69s0(a:LI):St:=bu HM.ps (a,())
def f69s1(a:LI):St:=af [(2,xo 1000128)] [] [(1000128,(⟨3,.int .i64,a,true,false⟩:ae))]
def f69l1:ab:=⟨[2],[],[⟨⟨false,2,0⟩,30000000,3,.int .i64,true⟩],[],[(⟨false,2,0⟩,1000128)]⟩
def f69B:Nat->Option ab:=aA [(1000000,f69l1)]
abbrev f69j{J:Type}(N n:Nat)(V:St)(l:ab)(K:KT J):Option J:=an HN aZ f69B N (aT 99 (a7 Tryz.f69) n) .n V (ay (some l) K)
def f69t0 N a (K:KT J):f69j N 1 (f69s0 a) f69lE K =
 cZ.Z0 N a (λb=>K .ret (f69s1 b)):=by kernel_rfl
def f69ok(h:cZ.Spec):aw Tryz.prog 69 oY :=
 bA Tryz.func69 a8 f69GOk (λN X K=>f69t0 N X.1 K) (by kernel_rfl) λX hb hp=>by obtain⟨a,_⟩:=X;obtain⟨N,h⟩:=h a hb.1 hp;exact⟨N,Eq.trans (by kernel_rfl) (h N (Nat.le_refl N))⟩
def uO:aw Tryz.prog 69 oY:=f69ok cZ.ok
def f115rf:Rf:=none
def f115ps:List PT:=[⟨.sl 3 (.int .i64),false,true⟩,⟨.int .i64,false,false⟩,⟨.sl 3 (.int .i64),false,true⟩]
def f115rs:List PT:=[⟨.sl 3 (.int .i64),false,false⟩]
def Ap:gV:=⟨f115rf,f115ps,f115rs,(some λX=>jr.P X.2.1 X.2.2.1 X.2.2.2.1),λX=>((),((jr.g X.2.1 X.2.2.1 X.2.2.2.1),()))⟩
def f115ren:Go.Shelf.Ren:=⟨λ|21=>115|27=>155|28=>156|35=>181|39=>194|n=>n,λ|22=>22|3=>3|4=>4|0=>0|n=>n,λn=>n⟩
def f115lay:Lays2.n21 Tryz.prog f115ren:={ mixed:=(by kernel_rfl),f21:=Tryz.func115.trans (congrArg some (by kernel_rfl)),f27:=Tryz.func155.trans (congrArg some (by kernel_rfl)),f28:=Tryz.func156.trans (congrArg some (by kernel_rfl)),f35:=Tryz.func181.trans (congrArg some (by kernel_rfl)),f39:=Tryz.func194.trans (congrArg some (by kernel_rfl)),t0:=Tryz.underlying0,a0:=Tryz.isAgg0,z0:=Tryz.sizeOf0,v0:=Tryz.zeroValue0,t3:=Tryz.underlying3,a3:=Tryz.isAgg3,z3:=Tryz.sizeOf3,v3:=Tryz.zeroValue3,t4:=Tryz.underlying4,a4:=Tryz.isAgg4,z4:=Tryz.sizeOf4,v4:=Tryz.zeroValue4,t22:=Tryz.underlying22,a22:=Tryz.isAgg22,z22:=Tryz.sizeOf22,v22:=Tryz.zeroValue22,i3:=(by kernel_rfl) }
def f115ok(_:True):fp Tryz.prog 115 Ap:=Nc f115lay
def e115ok:fp Tryz.prog 115 Ap:=f115ok jr.ok
def HO:ba:=⟨[⟨.int .i64,false,false⟩],[⟨.sl 22 (.sl 3 (.int .i64)),false,false⟩]⟩
def Aq:aQ:=⟨HO,(some λX=>bH.P X.1),λX=>((),((bH.g X.1),()))⟩
def HP:Gm:=addM (aI aY 69 oY) 115 Ap
def f80GOk:ao Tryz.prog HP:=((ao.nil).add uO (by kernel_rfl)).addM e115ok (by kernel_rfl)
def f80lE:ab:=⟨[],[],[],[],[]⟩
def f80s0(a:Int):St:=bu HO.ps (a,())
def HQ(a:Int):St:=af [(0,xi a)] [] []
def f80l1:ab:=⟨[0],[],[],[],[]⟩
def HR(a:LL)(b:Int):St:=af [(0,xi b),(3,xo 1000192)] [] [(1000192,(⟨22,.sl 3 tI,a,true,false⟩:ae))]
def f80l2:ab:=⟨[0,3],[],[],[],[(⟨false,3,0⟩,1000192)]⟩
def kD(a:LL)(b c:Int):St:=af [(0,xi b),(3,xo 1000192),(4,xi c)] [] [(1000192,(⟨22,.sl 3 tI,a,true,false⟩:ae))]
def oZ:ab:=⟨[0,3,4],[],[],[],[(⟨false,3,0⟩,1000192)]⟩
def HS(a:LL)(b d:Int):St:=af [(0,xi b),(3,xo 1000192),(4,xi d),(5,.c (.nil))] [] [(1000192,(⟨22,.sl 3 tI,a,true,false⟩:ae))]
def f80l4:ab:=⟨[0,3,4,5],[],[],[],[(⟨false,3,0⟩,1000192)]⟩
def HT(a:LL)(b d e f:Int):St:=af [(0,xi b),(4,xi d),(5,.c (.nil)),(15,xo 1000960),(16,xi e),(17,xi f)] [] [(1000960,(⟨22,.sl 3 tI,a,true,false⟩:ae))]
def f80l5:ab:=⟨[0,4,5,15,16,17],[],[],[],[(⟨false,15,0⟩,1000960)]⟩
def lO(a b:LL)(c d e f:Int):St:=af [(0,xi c),(4,xi d),(5,xo 1000320),(15,xo 1000960),(16,xi e),(17,xi f)] [] [(1000320,(⟨22,.sl 3 tI,a,true,false⟩:ae)),(1000960,(⟨22,.sl 3 tI,b,true,false⟩:ae))]
def o5:ab:=⟨[0,4,5,15,16,17],[],[],[],[(⟨false,5,0⟩,1000320),(⟨false,15,0⟩,1000960)]⟩
def HU(a b:LL)(c d e f:Int):St:=af [(0,xi c),(4,xi d),(5,xo 1000320),(15,xo 1000960),(16,xi e),(17,xi f)] [] [(1000320,(⟨22,.sl 3 tI,a,true,false⟩:ae)),(1000960,(⟨22,.sl 3 tI,b,true,false⟩:ae))]
def f80l11:ab:=⟨[0,4,5,15,16,17],[],[⟨⟨false,5,0⟩,30000000,22,.sl 3 (.int .i64),true⟩],[],[(⟨false,5,0⟩,1000320),(⟨false,15,0⟩,1000960)]⟩
def HV(a b:LL)(c d e f:Int)(g:Bool):St:=af [(0,xi c),(4,xi d),(5,xo 1000320),(15,xo 1000960),(16,xi e),(17,xi f),(18,xB g)] [] [(1000320,(⟨22,.sl 3 tI,a,true,false⟩:ae)),(1000960,(⟨22,.sl 3 tI,b,true,false⟩:ae))]
def f80l12:ab:=⟨[0,4,5,15,16,17,18],[],[],[],[(⟨false,5,0⟩,1000320),(⟨false,15,0⟩,1000960)]⟩
def HW(a b:LL)(d e:Int)(f:LI)(g h:Int):St:=af [(0,xi d),(4,xi e),(5,xo 1000320),(7,.c (.sn 3 tI f (some 1000960))),(15,xo 1000960),(16,xi g),(17,xi h)] [] [(1000320,(⟨22,.sl 3 tI,a,true,false⟩:ae)),(1000960,(⟨22,.sl 3 tI,b,true,false⟩:ae))]
def f80l13:ab:=⟨[0,4,5,7,15,16,17],[],[],[],[(⟨false,5,0⟩,1000320),(⟨false,15,0⟩,1000960)]⟩
def uP(a b:LL)(d e:Int)(f:LI)(g h i:Int):St:=af [(0,xi d),(4,xi e),(5,xo 1000320),(7,.c (.sn 3 tI f (some 1000960))),(8,xi g),(15,xo 1000960),(16,xi h),(17,xi i)] [] [(1000320,(⟨22,.sl 3 tI,a,true,false⟩:ae)),(1000960,(⟨22,.sl 3 tI,b,true,false⟩:ae))]
def HX:ab:=⟨[0,4,5,7,8,15,16,17],[],[],[],[(⟨false,5,0⟩,1000320),(⟨false,15,0⟩,1000960)]⟩
def o6(a:LL)(b c:Int):St:=af [(0,xi b),(4,xi c),(5,xo 1000320)] [] [(1000320,(⟨22,.sl 3 tI,a,true,false⟩:ae))]
def Ar:ab:=⟨[0,4,5],[],[],[],[(⟨false,5,0⟩,1000320)]⟩
def o7(a:LL):St:=af [(3,xo 1000192)] [] [(1000192,(⟨22,.sl 3 tI,a,true,false⟩:ae))]
def As:ab:=⟨[3],[],[],[],[(⟨false,3,0⟩,1000192)]⟩
def f80s17(a:LL):St:=af [(2,xo 1000128)] [] [(1000128,(⟨22,.sl 3 tI,a,true,false⟩:ae))]
def f80l17:ab:=⟨[2],[],[],[],[(⟨false,2,0⟩,1000128)]⟩
def f80B:Nat->Option ab:=aA [(4,o5),(3,o5),(2,Ar),(1,oZ),(0,As),(1000000,f80l17)]
abbrev gk{J:Type}(N n:Nat)(V:St)(l:ab)(K:KT J):Option J:=an HP aZ f80B N (aT 99 (a7 Tryz.f80) n) .n V (ay (some l) K)
def f80t1 N a (K:KT J):gk N 2 (f80s0 a) f80l1 K =
 bH.Z1 N a (λa=>K .nrm (HQ a)):=by kernel_rfl
def f80t3 N a (K:KT J):gk N 5 (HQ a) f80l2 K =
 bH.Z3 N a (λb a=>K .nrm (HR b a)):=by kernel_rfl
def f80t6 N a b (K:KT J):gk N 19 (HR a b) oZ K =
 bH.Z6 N a b (λa b c=>K .nrm (kD a b c)):=by kernel_rfl
def f80t10 N a b c (K:KT J):gk N 139 (kD a b c) oZ K =
 bH.Z10 N a b c (λa b c=>K .nrm (kD a b c)) (λa=>K (.exit 0) (o7 a)):=by kernel_rfl
def f80t14 N a b c (K:KT J):gk N 1099 (kD a b c) f80l4 K =
 bH.Z14 N a b c (λa b c=>K .nrm (HS a b c)):=by kernel_rfl
def f80t17 N c a b (K:KT J):gk N 4683 (HS c a b) f80l5 K =
 bH.Z17 N c a b (λd a b e f=>K .nrm (HT d a b e f)):=by kernel_rfl
def f80t21 N a b c d e f (K:KT J):gk N 35403 (HU a b c d e f) f80l12 K =
 bH.Z21 N a b c d e f (λa b c d e f g=>K .nrm (HV a b c d e f g)):=by kernel_rfl
def f80t23 N a d b c e f g (K:KT J):gk N 84555 (HV a d b c e f g) o5 K =
 bH.Z23 N a d b c e f g (λa d b c e f=>K .nrm (lO a d b c e f)) (λa b c=>K (.exit 2) (o6 a b c)):=by kernel_rfl
def f80t27 N a b c d e f (K:KT J):gk N 576075 (lO a b c d e f) f80l13 K =
 bH.Z27 N a b c d e f (λa b c d g e f=>K .nrm (HW a b c d g e f)):=by kernel_rfl
def f80t29 N a b c d e f g (K:KT J):gk N 1362507 (HW a b c d e f g) HX K =
 bH.Z29 N a b c d e f g (λa b c d e h f g=>K .nrm (uP a b c d e h f g)):=by kernel_rfl
def f80t32 N a b c d g h e f (K:KT J):gk N 5032523 (uP a b c d g h e f) HX K =
 bH.Z32 N a b c d g h e f (λa b c d g h e f=>K .nrm (uP a b c d g h e f)) (λa b c d e f=>K (.exit 4) (lO a b c d e f)):=by kernel_rfl
def f80t31L N (K:KT J):=jB K (bH.Z31L N (λa b c d e f=>K (.exit 4) (lO a b c d e f))) (λa b c d g h e f k=>bH.Z32 N a b c d g h e f k (λa b c d e f=>K (.exit 4) (lO a b c d e f))) (λF a b c d g h e f=>f80t32 N a b c d g h e f _) (by kernel_rfl)
def f80t31 N a b c d e f g h (K:KT J):=vL (uP a b c d e f g h) (f80t31L N (jK o5 K) N a b c d e f g h) (by kernel_rfl)
def f80t30 N a b c d g h e f (K:KT J):=vB 4 o5 K (bH.Z30 N a b c d g h e f (λa b c d e f=>K .nrm (lO a b c d e f))) (f80t31 N a b c d g h e f _) (by kernel_rfl)
def f80t28 N a b c d e f g (K:KT J):=vQ (λk=>bH.Z29 N a b c d e f g k) (f80t29 N a b c d e f g _) (du λa b c d e h f g=>f80t30 N a b c d e h f g K)
def f80t26 N a b c d e f (K:KT J):=vQ (λk=>bH.Z27 N a b c d e f k) (f80t27 N a b c d e f _) (eA λa b c d g e f=>f80t28 N a b c d g e f K)
def f80t25 N a b c d e f (K:KT J):=vB 3 o5 K (bH.Z25 N a b c d e f (λa b c d e f=>K .nrm (lO a b c d e f))) (f80t26 N a b c d e f _) (by kernel_rfl)
def f80t33 N a b c d e f (K:KT J):gk N 248395 (lO a b c d e f) f80l11 K =
 bH.Z33 N a b c d e f (λa b c d e f=>K .nrm (HU a b c d e f)):=by kernel_rfl
def f80t24 N a b c d e f (K:KT J):=vQ (λk=>bH.Z25 N a b c d e f k) (f80t25 N a b c d e f _) (cB λa b c d e f=>f80t33 N a b c d e f K)
def f80t22 N a d b c e f g (K:KT J):=vQ (λk=>bH.Z23 N a d b c e f g k (λa b c=>K (.exit 2) (o6 a b c))) (f80t23 N a d b c e f g _) (cB λa d b c e f=>f80t24 N a d b c e f K)
def f80t20 N a b c d e f (K:KT J):=vQ (λk=>bH.Z21 N a b c d e f k) (f80t21 N a b c d e f _) (eA λa b c d e f g=>f80t22 N a b c d e f g K)
def f80t19L N (K:KT J):=kf K (bH.Z19L N (λa b c=>K (.exit 2) (o6 a b c))) (λa d b c e f k=>bH.Z20 N a d b c e f k (λa b c=>K (.exit 2) (o6 a b c))) (λF a d b c e f=>f80t20 N a d b c e f _) (by kernel_rfl)
def f80t19 N a b c d e (K:KT J):=vL (HT a b c d e) (f80t19L N (jK Ar K) N ([]:List (LI)) a b c d e) (by kernel_rfl)
def f80t18 N c a b d e (K:KT J):=vB 2 Ar K (bH.Z18 N c a b d e (λf a b=>K .nrm (o6 f a b))) (f80t19 N c a b d e _) (by kernel_rfl)
def f80t16 N c a b (K:KT J):=vQ (λk=>bH.Z17 N c a b k) (f80t17 N c a b _) (cn λd a b e f=>f80t18 N d a b e f K)
def f80t34 N c a b (K:KT J):gk N 3659 (o6 c a b) oZ K =
 bH.Z34 N c a b (λd a b=>K .nrm (kD d a b)):=by kernel_rfl
def f80t15 N c a b (K:KT J):=vQ (λk=>bH.Z16 N c a b k) (f80t16 N c a b _) (cF λd a b=>f80t34 N d a b K)
def f80t13 N a b c (K:KT J):=vQ (λk=>bH.Z14 N a b c k) (f80t14 N a b c _) (cF λa b c=>f80t15 N a b c K)
def f80t12 N a b c (K:KT J):=vB 1 oZ K (bH.Z12 N a b c (λa b c=>K .nrm (kD a b c))) (f80t13 N a b c _) (by kernel_rfl)
def f80t35 N a b c (K:KT J):gk N 459 (kD a b c) oZ K =
 bH.Z35 N a b c (λa b c=>K .nrm (kD a b c)):=by kernel_rfl
def f80t11 N a b c (K:KT J):=vQ (λk=>bH.Z12 N a b c k) (f80t12 N a b c _) (cF λa b c=>f80t35 N a b c K)
def f80t9 N a b c (K:KT J):=vQ (λk=>bH.Z10 N a b c k (λa=>K (.exit 0) (o7 a))) (f80t10 N a b c _) (cF λa b c=>f80t11 N a b c K)
def f80t8L N (K:KT J):=g8 K (bH.Z8L N (λa=>K (.exit 0) (o7 a))) (λa b c k=>bH.Z9 N a b c k (λa=>K (.exit 0) (o7 a))) (λF a b c=>f80t9 N a b c _) (by kernel_rfl)
def f80t8 N a b c (K:KT J):=vL (kD a b c) (f80t8L N (jK As K) N a b c) (by kernel_rfl)
def f80t7 N a b c (K:KT J):=vB 0 As K (bH.Z7 N a b c (λa=>K .nrm (o7 a))) (f80t8 N a b c _) (by kernel_rfl)
def f80t5 N a b (K:KT J):=vQ (λk=>bH.Z6 N a b k) (f80t6 N a b _) (cF λa b c=>f80t7 N a b c K)
def f80t36 N a (K:KT J):gk N 15 (o7 a) f80lE K =
 bH.Z36 N a (λb=>K .ret (f80s17 b)):=by kernel_rfl
def f80t4 N a b (K:KT J):=vQ (λk=>bH.Z5 N a b k) (f80t5 N a b _) (funext λa=>f80t36 N a K)
def f80t2 N a (K:KT J):=vQ (λk=>bH.Z3 N a k) (f80t3 N a _) (cV λb a=>f80t4 N b a K)
def f80t0 N a (K:KT J):=vQ (λk=>bH.Z1 N a k) (f80t1 N a _) (funext λa=>f80t2 N a K)
def f80ok(h:bH.Spec):aw Tryz.prog 80 Aq :=
 bA Tryz.func80 a8 f80GOk (λN X K=>f80t0 N X.1 K) (by kernel_rfl) λX hb hp=>by obtain⟨a,_⟩:=X;obtain⟨N,h⟩:=h a hp;exact⟨N,Eq.trans (by kernel_rfl) (h N (Nat.le_refl N))⟩
def e80ok:aw Tryz.prog 80 Aq:=f80ok bH.ok
end Go.Fw
