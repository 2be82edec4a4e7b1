/- The ties: the program's text comes to the plain functions. Nothing is assumed. -/
import Derived.Test.YtkjnhmjfdfiklaaGreatDoorFza
import Derived.Test.YtkjnhmjfdfiklaaGreatDoorFwd
import Derived.Test.YtkjnhmjfdfiklaaGreatDoorProg
import Derived.Test.YtkjnhmjfdfiklaaGreatDoorPuFnTypesb
import Derived.Test.YtkjnhmjfdfiklaaGreatDoorPuFnTypesa
import Derived.Test.YtkjnhmjfdfiklaaGreatDoorChecked
noncomputable section
set_option linter.defProp false
set_option linter.unusedSectionVars false
set_option linter.unusedVariables false
set_option linter.unusedSimpArgs false
set_option maxRecDepth 100000
namespace Go.Fw
open Go.Proofs
def bg:bi:=sI [
 (2,⟨false,.int .i64,[.int .i64 0],[],none,8⟩),
 (3,⟨false,.int .i64,[.int .i64 0],[],none,8⟩),
 (4,⟨false,.bool,[.bool false],[],none,1⟩),
 (5,⟨false,.int .u8,[.int .u8 0],[],none,1⟩),
 (6,⟨false,.int .u8,[.int .u8 0],[],none,1⟩),
 (7,⟨true,.pair (.int .i64) (.pair (.int .i64) (.pair (.bool) (.int .u8))),[.int .i64 0,.int .i64 0,.bool false,.int .u8 0],[(0,1,false),(1,1,false),(2,1,false),(3,1,false)],none,24⟩),
 (8,⟨true,.pair (.int .i64) (.pair (.int .i64) (.pair (.bool) (.int .u8))),[.int .i64 0,.int .i64 0,.bool false,.int .u8 0],[(0,1,false),(1,1,false),(2,1,false),(3,1,false)],none,24⟩),
 (9,⟨false,.str,[.str ByteArray.empty],[],none,16⟩),
 (10,⟨false,.str,[.str ByteArray.empty],[],none,16⟩),
 (11,⟨false,.str,[.str ByteArray.empty],[],none,16⟩),
 (12,⟨false,.int .u64,[.int .u64 0],[],none,8⟩),
 (13,⟨true,.pair (.str) (.int .u64),[.str ByteArray.empty,.int .u64 0],[(0,1,false),(1,1,false)],none,24⟩),
 (14,⟨true,.pair (.str) (.int .u64),[.str ByteArray.empty,.int .u64 0],[(0,1,false),(1,1,false)],none,24⟩),
 (20,⟨false,.err,[.err false],[],none,16⟩),
 (21,⟨false,.int .i32,[.int .i32 0],[],none,4⟩),
 (22,⟨false,.sl 3 (.int .i64),[.nil],[],some 3,24⟩),
 (23,⟨true,.pair (.int .i64) (.pair (.int .i64) (.sl 3 (.int .i64))),[.int .i64 0,.int .i64 0,.nil],[(0,1,false),(1,1,false),(2,1,false)],none,40⟩),
 (24,⟨true,.pair (.int .i64) (.pair (.int .i64) (.sl 3 (.int .i64))),[.int .i64 0,.int .i64 0,.nil],[(0,1,false),(1,1,false),(2,1,false)],none,40⟩),
 (27,⟨true,.pair (.int .i64) (.pair (.int .i64) (.sl 3 (.int .i64))),[.int .i64 0,.int .i64 0,.nil],[(0,1,false),(1,1,false),(2,1,false)],none,40⟩),
 (31,⟨false,.sl 27 (.pair (.int .i64) (.pair (.int .i64) (.sl 3 (.int .i64)))),[.nil],[],some 27,24⟩),
 (37,⟨false,.sl 5 (.int .u8),[.nil],[],some 5,24⟩),
 (52,⟨false,.sl 22 (.sl 3 (.int .i64)),[.nil],[],some 22,24⟩),
 (59,⟨false,.pair (.str) (.sl 0 .bool),[.undef],[],none,8⟩),
 (70,⟨false,.sl 9 (.str),[.nil],[],some 9,24⟩),
 (96,⟨false,.int .u64,[.int .u64 0],[],none,8⟩),
 (97,⟨true,.pair (.sl 5 (.int .u8)) (.pair (.int .i64) (.int .i64)),[.nil,.int .i64 0,.int .i64 0],[(0,1,false),(1,1,false),(2,1,false)],none,40⟩),
 (98,⟨true,.pair (.sl 5 (.int .u8)) (.pair (.int .i64) (.int .i64)),[.nil,.int .i64 0,.int .i64 0],[(0,1,false),(1,1,false),(2,1,false)],none,40⟩),
 (102,⟨false,.err,[.err false],[],none,16⟩),
 (103,⟨false,.err,[.err false],[],none,16⟩),
 (109,⟨false,.sl 4 (.bool),[.nil],[],some 4,24⟩),
 (122,⟨false,.int .i64,[.int .i64 0],[],none,8⟩),
 (130,⟨false,.int .u32,[.int .u32 0],[],none,4⟩),
 (132,⟨false,.int .u64,[.int .u64 0],[],none,8⟩),
 (150,⟨false,.int .u64,[.int .u64 0],[],none,8⟩),
 (159,⟨false,.int .i64,[.int .i64 0],[],none,8⟩),
 (179,⟨true,.pair (.str) (.pair (.str) (.err)),[.str ByteArray.empty,.str ByteArray.empty,.err false],[(0,1,false),(1,1,false),(2,1,false)],none,48⟩),
 (180,⟨true,.pair (.str) (.pair (.str) (.err)),[.str ByteArray.empty,.str ByteArray.empty,.err false],[(0,1,false),(1,1,false),(2,1,false)],none,48⟩),
 (189,⟨true,.pair (.int .u8) (.int .u8),[.int .u8 0,.int .u8 0],[(0,1,false),(1,1,false)],none,2⟩),
 (190,⟨true,.pair (.int .u8) (.int .u8),[.int .u8 0,.int .u8 0],[(0,1,false),(1,1,false)],none,2⟩),
 (196,⟨true,.str,[.str ByteArray.empty],[(0,1,false)],none,16⟩),
 (197,⟨true,.str,[.str ByteArray.empty],[(0,1,false)],none,16⟩),
 (209,⟨false,.int .u8,[.int .u8 0],[],none,1⟩),
 (210,⟨false,.int .u8,[.int .u8 0],[],none,1⟩),
 (212,⟨false,.int .i32,[.int .i32 0],[],none,4⟩),
 (213,⟨false,.int .i32,[.int .i32 0],[],none,4⟩)]
def bu:a6 Tryz.prog bg:=a6.of (by kernel_rfl)
def zI : List (String × IntKind × List Int) := [("internal/strconv.uint64pow10", .u64, Lib.pow10Tab)]
def Fz:List (String×IntKind):=[]
def FA:List String:=[]
instance:Inv Tryz.prog:=Inv.tabs _ zI Fz FA
theorem PN (w : World) (h : Inv.I Tryz.prog w) : Lib.TabIs Tryz.prog w "internal/strconv.uint64pow10" .u64 Lib.pow10Tab := Inv.tab_mem (q := Fz) (es := FA) ("internal/strconv.uint64pow10", .u64, Lib.pow10Tab) (List.mem_of_getElem? (i := 0) rfl) w h
end Go.Fw
namespace Go.Fw
variable {J : Type}
open Go.Proofs
def FB:bc:=⟨[⟨.sl 5 (.int .u8),false,false⟩],[⟨.bool,false,false⟩]⟩
def zK:aQ:=⟨FB,none,λX=>((),((kW.g X.1),()))⟩
def FC:Gm:=be
def PO:av Tryz.prog FC:=av.nil
def PP:ab:=⟨[],[],[],[],[]⟩
def PQ(a:List Int):St:=bA FB.ps (a,())
def PR(a:Bool):St:=ah [(2,xB a)] [] []
def PS:ab:=⟨[2],[],[],[],[]⟩
def PU:Nat->Option ab:=aA [(1000000,PS)]
abbrev PV{J:Type}(N n:Nat)(V:St)(l:ab)(K:KT J):Option J:=am FC bg PU N (aZ 99 (bm Tryz.f20) n) .n V (az (some l) K)
def PW N a (K:KT J):PV N 1 (PQ a) PP K =
 kW.Z0 N a (λb=>K .ret (PR b)):=by kernel_rfl
def PX(h:kW.Spec):ay Tryz.prog 20 zK :=
 bI Tryz.func20 bu PO (λN X K=>PW N X.1 K) (by kernel_rfl) λX hb hp=>by obtain⟨a,_⟩:=X;obtain⟨N,h⟩:=h a hb.1;exact⟨N,Eq.trans (by kernel_rfl) (h N (Nat.le_refl N))⟩
def PY:ay Tryz.prog 20 zK:=PX kW.ok
def PZ:dD:=⟨98,[(5,.int .u8)],.pair (.int .i64) (.int .i64)⟩
def FD:List PT:=[⟨.sl 5 (.int .u8),false,false⟩]
def zL:jD:=⟨PZ,FD,none,λX=>(bP.g X.1)⟩
def FE:Gm:=be
def P0:av Tryz.prog FE:=av.nil
def P1:ab:=⟨[],[],[],[],[]⟩
def P2(u0:Value)(a:List Int):St:=nj 5 (.int .u8) (FD.drop 1) u0 (a,())
def FF(u0:Value)(a:List Int):St:=ah [(0,.c (.bor u0 5 (.int .u8) a))] [] []
def P3:ab:=⟨[0],[],[],[],[]⟩
def nF(u0:Value)(a:List Int)(b:Int):St:=ah [(0,.c (.bor u0 5 (.int .u8) a)),(3,xi b)] [] []
def uG:ab:=⟨[0,3],[],[],[],[]⟩
def uH(u0:Value)(a:List Int)(b d:Int):St:=ah [(0,.c (.bor u0 5 (.int .u8) a)),(3,xi b),(4,xi d)] [] []
def FG:ab:=⟨[0,3,4],[],[],[],[]⟩
def P4(u0:Value)(a:List Int)(b c:Int):St:=ah [(2,xb 31)] [(31,(98,[.bor u0 5 (.int .u8) a,yi b,yi c]))] []
def P5:ab:=⟨[2],[31],[],[],[]⟩
def P6:Nat->Option ab:=aA [(0,uG),(1000000,P5)]
abbrev rV{J:Type}(N n:Nat)(V:St)(l:ab)(K:KT J):Option J:=am FE bg P6 N (aZ 99 (bm Tryz.f54) n) .n V (az (some l) K)
def P7 N u0 a (K:KT J):rV N 2 (P2 u0 a) P3 K =
 bP.Z1 N a (λa=>K .nrm (FF u0 a)):=by kernel_rfl
def P8 N u0 a (K:KT J):rV N 5 (FF u0 a) uG K =
 bP.Z3 N a (λa b=>K .nrm (nF u0 a b)):=by kernel_rfl
def P9 N u0 a b (K:KT J):rV N 19 (nF u0 a b) FG K =
 bP.Z6 N a b (λa b c=>K .nrm (uH u0 a b c)):=by kernel_rfl
def Qa N u0 a b c (K:KT J):rV N 75 (uH u0 a b c) FG K =
 bP.Z9 N a b c (λa b c=>K .nrm (uH u0 a b c)) (λa b=>K (.exit 0) (nF u0 a b)):=by kernel_rfl
def Qb N u0 (K:KT J):=j0 K (bP.Z8L N (λa b=>K (.exit 0) (nF u0 a b))) (λa b c k=>bP.Z9 N a b c k (λa b=>K (.exit 0) (nF u0 a b))) (λF a b c=>Qa N u0 a b c _) (by kernel_rfl)
def Qc N u0 a b c (K:KT J):=vL (uH u0 a b c) (Qb N u0 (jK uG K) N a b c) (by kernel_rfl)
def Qd N u0 a b c (K:KT J):=vB 0 uG K (bP.Z7 N a b c (λa b=>K .nrm (nF u0 a b))) (Qc N u0 a b c _) (by kernel_rfl)
def Qe N u0 a b (K:KT J):=vQ (λk=>bP.Z6 N a b k) (P9 N u0 a b _) (cW λa b c=>Qd N u0 a b c K)
def Qf N u0 a b (K:KT J):rV N 15 (nF u0 a b) P1 K =
 bP.Z10 N a b (λc d e=>K .ret (P4 u0 c d e)):=by kernel_rfl
def Qg N u0 a b (K:KT J):=vQ (λk=>bP.Z5 N a b k) (Qe N u0 a b _) (eN λa b=>Qf N u0 a b K)
def Qh N u0 a (K:KT J):=vQ (λk=>bP.Z3 N a k) (P8 N u0 a _) (eN λa b=>Qg N u0 a b K)
def Qi N u0 a (K:KT J):=vQ (λk=>bP.Z1 N a k) (P7 N u0 a _) (funext λa=>Qh N u0 a K)
def Qj(h:bP.Spec):lq Tryz.prog 54 zL :=
 MS Tryz.func54 bu P0 (λN u X K=>Qi N u X.1 K) (by kernel_rfl) λu0 X hb2 hp=>by obtain⟨a,_⟩:=X;obtain⟨N,h⟩:=h [u0] a hb2.1;exact⟨N,Eq.trans (by kernel_rfl) (h N (Nat.le_refl N))⟩
def Qk:lq Tryz.prog 54 zL:=Qj bP.ok
def FH:dD:=⟨98,[(5,.int .u8)],.pair (.int .i64) (.int .i64)⟩
def FI:List PT:=[]
def Ql:List PT:=[⟨.int .i64,false,false⟩]
def zM:eY:=⟨FH,FI,true,Ql,(some λX=>aT.P X.1.1.1 X.1.2),λX=>((aT.g X.1.1.1 X.1.2).1,((),((aT.g X.1.1.1 X.1.2).2,())))⟩
def FJ:Gm:=be
def Qm:av Tryz.prog FJ:=av.nil
def Qn:ab:=⟨[],[],[],[],[]⟩
def Qo(u0:Value)(b0:List Int)(r0:Int×Int):St:=ed FH FI [u0] (((b0,()),r0),())
def Qp(u0:Value)(a:Int)(b:List Int)(c d:Int):St:=ah [(2,xi a),(100000,xb 100000)] [(100000,(98,[.bor u0 5 (.int .u8) b,yi c,yi d]))] []
def Qq:ab:=⟨[2,100000],[100000],[],[],[]⟩
def Qr:Nat->Option ab:=aA [(1000000,Qq)]
abbrev Qs{J:Type}(N n:Nat)(V:St)(l:ab)(K:KT J):Option J:=am FJ bg Qr N (aZ 99 (bm Tryz.f133) n) .n V (az (some l) K)
def Qt N u0 b0 r0 (K:KT J):Qs N 1 (Qo u0 b0 r0) Qn K =
 aT.Z0 N b0 r0 (λa b c d=>K .ret (Qp u0 a b c d)):=by kernel_rfl
def Qu(h:aT.Spec):dU Tryz.prog 133 zM :=
 kI Tryz.func133 bu Qm (λN u X K=>Qt N u X.1.1.1 X.1.2 K) (by kernel_rfl) λu0 X hb1 hb2 hp=>by obtain⟨⟨⟨b0,_⟩,r0⟩,_⟩:=X;obtain⟨N,h⟩:=h [u0] b0 r0 hb1.1 hp;exact⟨N,Eq.trans (by kernel_rfl) (h N (Nat.le_refl N))⟩
def Qv:dU Tryz.prog 133 zM:=Qu aT.ok
def FK:dD:=⟨98,[(5,.int .u8)],.pair (.int .i64) (.int .i64)⟩
def FL:List PT:=[⟨.int .i64,false,false⟩]
def Qw:List PT:=[⟨.int .i64,false,false⟩]
def nG:eY:=⟨FK,FL,true,Qw,(some λX=>aw.P X.1.1.1 X.1.2 X.2.1),λX=>((aw.g X.1.1.1 X.1.2 X.2.1).1,((),((aw.g X.1.1.1 X.1.2 X.2.1).2,())))⟩
def FM:Gm:=addV be 133 zM
def Qx:av Tryz.prog FM:=(av.nil).addV Qv (by kernel_rfl)
def Qy:ab:=⟨[],[],[],[],[]⟩
def Qz(u0:Value)(b0:List Int)(r0:Int×Int)(a:Int):St:=ed FK FL [u0] (((b0,()),r0),(a,()))
def QA(u0:Value)(a:Int)(b:List Int)(c d:Int):St:=ah [(4,xi a),(100000,xb 100000)] [(100000,(98,[.bor u0 5 (.int .u8) b,yi c,yi d]))] []
def QB:ab:=⟨[4,100000],[100000],[],[],[]⟩
def QC:Nat->Option ab:=aA [(1000000,QB)]
abbrev QD{J:Type}(N n:Nat)(V:St)(l:ab)(K:KT J):Option J:=am FM bg QC N (aZ 99 (bm Tryz.f96) n) .n V (az (some l) K)
def QE N u0 b0 r0 a (K:KT J):QD N 1 (Qz u0 b0 r0 a) Qy K =
 aw.Z0 N b0 r0 a (λb c d e=>K .ret (QA u0 b c d e)):=by kernel_rfl
def QF(h:aw.Spec):dU Tryz.prog 96 nG :=
 kI Tryz.func96 bu Qx (λN u X K=>QE N u X.1.1.1 X.1.2 X.2.1 K) (by kernel_rfl) λu0 X hb1 hb2 hp=>by obtain⟨⟨⟨b0,_⟩,r0⟩,a,_⟩:=X;obtain⟨N,h⟩:=h [u0] b0 r0 a hb1.1 hp;exact⟨N,Eq.trans (by kernel_rfl) (h N (Nat.le_refl N))⟩
def rW:dU Tryz.prog 96 nG:=QF aw.ok
def FN:bc:=⟨[⟨.int .i64,false,false⟩],[⟨.pair (.int .i64) (.pair (.int .i64) (.sl 3 (.int .i64))),true,false⟩]⟩
def zN:aQ:=⟨FN,(some λX=>aG.P X.1),λX=>((),((aG.g X.1),()))⟩
def FO:Gm:=be
def QG:av Tryz.prog FO:=av.nil
def QH:ab:=⟨[],[],[],[],[]⟩
def QI(a:Int):St:=bA FN.ps (a,())
def QJ(a:LI)(b c:Int):St:=ah [(2,xb 2)] [(2,(27,[yi b,yi c,.own 20000130]))] [(20000130,(⟨3,.int .i64,a,true,false⟩:ae))]
def QK:ab:=⟨[2],[2],[],[],[(⟨true,2,2⟩,20000130)]⟩
def QL:Nat->Option ab:=aA [(1000000,QK)]
abbrev QM{J:Type}(N n:Nat)(V:St)(l:ab)(K:KT J):Option J:=am FO bg QL N (aZ 99 (bm Tryz.f134) n) .n V (az (some l) K)
def QN N a (K:KT J):QM N 1 (QI a) QH K =
 aG.Z0 N a (λb c d=>K .ret (QJ b c d)):=by kernel_rfl
def QO(h:aG.Spec):ay Tryz.prog 134 zN :=
 bI Tryz.func134 bu QG (λN X K=>QN N X.1 K) (by kernel_rfl) λX hb hp=>by obtain⟨a,_⟩:=X;obtain⟨N,h⟩:=h a hp;exact⟨N,Eq.trans (by kernel_rfl) (h N (Nat.le_refl N))⟩
def QP:ay Tryz.prog 134 zN:=QO aG.ok
def FP:dD:=⟨98,[(5,.int .u8)],.pair (.int .i64) (.int .i64)⟩
def FQ:List PT:=[⟨.int .i64,false,false⟩]
def QQ:List PT:=[⟨.bool,false,false⟩]
def zO:eY:=⟨FP,FQ,true,QQ,(some λX=>dv.P X.1.1.1 X.1.2 X.2.1),λX=>((dv.g X.1.1.1 X.1.2 X.2.1).1,((),((dv.g X.1.1.1 X.1.2 X.2.1).2,())))⟩
def FR:Gm:=addV be 96 nG
def QR:av Tryz.prog FR:=(av.nil).addV rW (by kernel_rfl)
def QS:ab:=⟨[],[],[],[],[]⟩
def QT(u0:Value)(b0:List Int)(r0:Int×Int)(a:Int):St:=ed FP FQ [u0] (((b0,()),r0),(a,()))
def QU(u0:Value)(a:Bool)(b:List Int)(c d:Int):St:=ah [(4,xB a),(100000,xb 100000)] [(100000,(98,[.bor u0 5 (.int .u8) b,yi c,yi d]))] []
def QV:ab:=⟨[4,100000],[100000],[],[],[]⟩
def QW:Nat->Option ab:=aA [(1000000,QV)]
abbrev QX{J:Type}(N n:Nat)(V:St)(l:ab)(K:KT J):Option J:=am FR bg QW N (aZ 99 (bm Tryz.f59) n) .n V (az (some l) K)
def QY N u0 b0 r0 a (K:KT J):QX N 1 (QT u0 b0 r0 a) QS K =
 dv.Z0 N b0 r0 a (λb c d e=>K .ret (QU u0 b c d e)):=by kernel_rfl
def QZ(h:dv.Spec):dU Tryz.prog 59 zO :=
 kI Tryz.func59 bu QR (λN u X K=>QY N u X.1.1.1 X.1.2 X.2.1 K) (by kernel_rfl) λu0 X hb1 hb2 hp=>by obtain⟨⟨⟨b0,_⟩,r0⟩,a,_⟩:=X;obtain⟨N,h⟩:=h [u0] b0 r0 a hb1.1 hp;exact⟨N,Eq.trans (by kernel_rfl) (h N (Nat.le_refl N))⟩
def Q0:dU Tryz.prog 59 zO:=QZ dv.ok
def FS:dD:=⟨98,[(5,.int .u8)],.pair (.int .i64) (.int .i64)⟩
def FT:List PT:=[⟨.pair (.int .i64) (.pair (.int .i64) (.sl 3 (.int .i64))),true,true⟩,⟨.int .i64,false,false⟩,⟨.int .i64,false,false⟩,⟨.int .i64,false,false⟩,⟨.int .i64,false,false⟩]
def Q1:List PT:=[]
def zQ:eY:=⟨FS,FT,true,Q1,(some λX=>a7.P X.1.1.1 X.1.2 X.2.1 X.2.2.1 X.2.2.2.1 X.2.2.2.2.1 X.2.2.2.2.2.1),λX=>((a7.g X.1.1.1 X.1.2 X.2.1 X.2.2.1 X.2.2.2.1 X.2.2.2.2.1 X.2.2.2.2.2.1).1,((a7.g X.1.1.1 X.1.2 X.2.1 X.2.2.1 X.2.2.2.1 X.2.2.2.2.1 X.2.2.2.2.2.1).2,()))⟩
def FU:Gm:=addV be 59 zO
def Q2:av Tryz.prog FU:=(av.nil).addV Q0 (by kernel_rfl)
def Q3(u0:Value)(b0:List Int)(r0:Int×Int)(a:MT)(b c d e:Int):St:=ed FS FT [u0] (((b0,()),r0),(a,(b,(c,(d,(e,()))))))
def Q4(u0:Value)(a:LI)(b c:Int)(d:List Int)(e f:Int):St:=ah [(100000,xb 100000),(100001,.agg [yi b,yi c,.own 7400066])] [(100000,(98,[.bor u0 5 (.int .u8) d,yi e,yi f]))] [(7400066,(⟨3,.int .i64,a,true,false⟩:ae))]
def Q5:ab:=⟨[100000,100001],[100000],[],[],[(⟨false,100001,2⟩,7400066)]⟩
def Q6:Nat->Option ab:=aA []
abbrev Q7{J:Type}(N n:Nat)(V:St)(l:ab)(K:KT J):Option J:=am FU bg Q6 N (aZ 99 (bm Tryz.f135) n) .n V (az (some l) K)
def Q8 N u0 b0 r0 a b c d e (K:KT J):Q7 N 1 (Q3 u0 b0 r0 a b c d e) Q5 K =
 a7.Z0 N b0 r0 a b c d e (λf g h i j l=>K .nrm (Q4 u0 f g h i j l)):=by kernel_rfl
def Q9(h:a7.Spec):dU Tryz.prog 135 zQ :=
 kI Tryz.func135 bu Q2 (λN u X K=>Q8 N u X.1.1.1 X.1.2 X.2.1 X.2.2.1 X.2.2.2.1 X.2.2.2.2.1 X.2.2.2.2.2.1 K) (by kernel_rfl) λu0 X hb1 hb2 hp=>by obtain⟨⟨⟨b0,_⟩,r0⟩,a,b,c,d,e,_⟩:=X;obtain⟨N,h⟩:=h [u0] b0 r0 a b c d e hb1.1 hb2.1 hp;exact⟨N,Eq.trans (by kernel_rfl) (h N (Nat.le_refl N))⟩
def Ra:dU Tryz.prog 135 zQ:=Q9 a7.ok
def FV:bc:=⟨[⟨.int .i64,false,false⟩],[⟨.str,false,false⟩]⟩
def zR:aQ:=⟨FV,(some λX=>bW.P X.1),λX=>((),((bW.g X.1),()))⟩
def FW:Gm:=be
def Rb:av Tryz.prog FW:=av.nil
def Rc:ab:=⟨[],[],[],[],[]⟩
def Re(a:Int):St:=bA FV.ps (a,())
def FX(a:Int):St:=ah [(0,xi a)] [] []
def Rg:ab:=⟨[0],[],[],[],[]⟩
def nH(a:List Int)(b:Int):St:=ah [(0,xi b),(3,xo 1000192)] [] [(1000192,(⟨5,.int .u8,a,true,false⟩:ae))]
def uI:ab:=⟨[0,3],[],[],[],[(⟨false,3,0⟩,1000192)]⟩
def uJ(a:List Int)(b c:Int):St:=ah [(0,xi b),(3,xo 1000192),(4,xi c)] [] [(1000192,(⟨5,.int .u8,a,true,false⟩:ae))]
def FY:ab:=⟨[0,3,4],[],[],[],[(⟨false,3,0⟩,1000192)]⟩
def FZ(a b:List Int)(c:Int):St:=ah [(0,xi c),(3,xo 1000192),(6,xo 1000384)] [] [(1000192,(⟨5,.int .u8,a,true,false⟩:ae)),(1000384,(⟨5,.int .u8,b,true,false⟩:ae))]
def Rh:ab:=⟨[0,3,6],[],[],[],[(⟨false,3,0⟩,1000192),(⟨false,6,0⟩,1000384)]⟩
def F0(a b:List Int):St:=ah [(3,xo 1000192),(6,xo 1000384)] [] [(1000192,(⟨5,.int .u8,a,true,false⟩:ae)),(1000384,(⟨5,.int .u8,b,true,false⟩:ae))]
def Ri:ab:=⟨[3,6],[],[],[],[(⟨false,3,0⟩,1000192),(⟨false,6,0⟩,1000384)]⟩
def uK(a b:List Int)(c:Int):St:=ah [(3,xo 1000192),(6,xo 1000384),(7,xi c)] [] [(1000192,(⟨5,.int .u8,a,true,false⟩:ae)),(1000384,(⟨5,.int .u8,b,true,false⟩:ae))]
def F1:ab:=⟨[3,6,7],[],[],[],[(⟨false,3,0⟩,1000192),(⟨false,6,0⟩,1000384)]⟩
def rX(a:List Int):St:=ah [(6,xo 1000384)] [] [(1000384,(⟨5,.int .u8,a,true,false⟩:ae))]
def zS:ab:=⟨[6],[],[],[],[(⟨false,6,0⟩,1000384)]⟩
def Rj(a:ByteArray):St:=ah [(2,.c (.str a))] [] []
def Rk:ab:=⟨[2],[],[],[],[]⟩
def Rl:Nat->Option ab:=aA [(0,uI),(2,zS),(1000000,Rk)]
abbrev kQ{J:Type}(N n:Nat)(V:St)(l:ab)(K:KT J):Option J:=am FW bg Rl N (aZ 99 (bm Tryz.f108) n) .n V (az (some l) K)
def Rm N a (K:KT J):kQ N 2 (Re a) Rg K =
 bW.Z1 N a (λa=>K .nrm (FX a)):=by kernel_rfl
def Rn N a (K:KT J):kQ N 5 (FX a) uI K =
 bW.Z3 N a (λb a=>K .nrm (nH b a)):=by kernel_rfl
def Ro N a b (K:KT J):kQ N 11 (nH a b) FY K =
 bW.Z5 N a b (λa b c=>K .nrm (uJ a b c)):=by kernel_rfl
def Rp N a b c (K:KT J):kQ N 71 (uJ a b c) FY K =
 bW.Z9 N a b c (λa b c=>K .nrm (uJ a b c)) (λa b=>K (.exit 0) (nH a b)):=by kernel_rfl
def Rq N (K:KT J):=j0 K (bW.Z8L N (λa b=>K (.exit 0) (nH a b))) (λa b c k=>bW.Z9 N a b c k (λa b=>K (.exit 0) (nH a b))) (λF a b c=>Rp N a b c _) (by kernel_rfl)
def Rr N a b c (K:KT J):=vL (uJ a b c) (Rq N (jK uI K) N a b c) (by kernel_rfl)
def Rs N a b c (K:KT J):=vB 0 uI K (bW.Z7 N a b c (λa b=>K .nrm (nH a b))) (Rr N a b c _) (by kernel_rfl)
def Rt N a b (K:KT J):kQ N 47 (nH a b) Rh K =
 bW.Z11 N a b (λa c b=>K .nrm (FZ a c b)):=by kernel_rfl
def Ru N a b c (K:KT J):kQ N 95 (FZ a b c) Ri K =
 bW.Z13 N a b c (λa b=>K .nrm (F0 a b)):=by kernel_rfl
def Rv N a b (K:KT J):kQ N 319 (F0 a b) F1 K =
 bW.Z16 N a b (λa b c=>K .nrm (uK a b c)):=by kernel_rfl
def Rw N b a c (K:KT J):kQ N 1215 (uK b a c) F1 K =
 bW.Z19 N b a c (λb a c=>K .nrm (uK b a c)) (λa=>K (.exit 2) (rX a)):=by kernel_rfl
def Rx N (K:KT J):=j0 K (bW.Z18L N (λa=>K (.exit 2) (rX a))) (λb a c k=>bW.Z19 N b a c k (λa=>K (.exit 2) (rX a))) (λF b a c=>Rw N b a c _) (by kernel_rfl)
def Ry N a b c (K:KT J):=vL (uK a b c) (Rx N (jK zS K) N a b c) (by kernel_rfl)
def Rz N b a c (K:KT J):=vB 2 zS K (bW.Z17 N b a c (λa=>K .nrm (rX a))) (Ry N b a c _) (by kernel_rfl)
def RA N a b (K:KT J):=vQ (λk=>bW.Z16 N a b k) (Rv N a b _) (cW λa b c=>Rz N a b c K)
def RB N a (K:KT J):kQ N 255 (rX a) Rc K =
 bW.Z20 N a (λb=>K .ret (Rj b)):=by kernel_rfl
def RC N b a (K:KT J):=vQ (λk=>bW.Z15 N b a k) (RA N b a _) (funext λa=>RB N a K)
def RD N a b c (K:KT J):=vQ (λk=>bW.Z13 N a b c k) (Ru N a b c _) (eN λa b=>RC N a b K)
def RE N a b (K:KT J):=vQ (λk=>bW.Z11 N a b k) (Rt N a b _) (cW λa c b=>RD N a c b K)
def RF N a b c (K:KT J):=vQ (λk=>bW.Z7 N a b c k) (Rs N a b c _) (eN λa b=>RE N a b K)
def RG N a b (K:KT J):=vQ (λk=>bW.Z5 N a b k) (Ro N a b _) (cW λa b c=>RF N a b c K)
def RH N a (K:KT J):=vQ (λk=>bW.Z3 N a k) (Rn N a _) (eN λb a=>RG N b a K)
def RI N a (K:KT J):=vQ (λk=>bW.Z1 N a k) (Rm N a _) (funext λa=>RH N a K)
def RJ(h:bW.Spec):ay Tryz.prog 108 zR :=
 bI Tryz.func108 bu Rb (λN X K=>RI N X.1 K) (by kernel_rfl) λX hb hp=>by obtain⟨a,_⟩:=X;obtain⟨N,h⟩:=h a hp;exact⟨N,Eq.trans (by kernel_rfl) (h N (Nat.le_refl N))⟩
def RK:ay Tryz.prog 108 zR:=RJ bW.ok
def F2:dD:=⟨98,[(5,.int .u8)],.pair (.int .i64) (.int .i64)⟩
def F3:List PT:=[⟨.int .i64,false,false⟩]
def RL:List PT:=[⟨.pair (.int .i64) (.pair (.int .i64) (.sl 3 (.int .i64))),true,false⟩,⟨.str,false,false⟩]
def zT:eY:=⟨F2,F3,true,RL,(some λX=>spec_dTree.P X.1.1.1 X.1.2 X.2.1),λX=>((spec_dTree.g X.1.1.1 X.1.2 X.2.1).1,((),((spec_dTree.g X.1.1.1 X.1.2 X.2.1).2.1,((spec_dTree.g X.1.1.1 X.1.2 X.2.1).2.2,()))))⟩
def F4:Gm:=addV (aK (aK (addV be 96 nG) 108 zR) 134 zN) 135 zQ
def RM:av Tryz.prog F4:=((((av.nil).addV rW (by kernel_rfl)).add RK (by kernel_rfl)).add QP (by kernel_rfl)).addV Ra (by kernel_rfl)
def RN:ab:=⟨[],[],[],[],[]⟩
def RO(u0:Value)(b0:List Int)(r0:Int×Int)(a:Int):St:=ed F2 F3 [u0] (((b0,()),r0),(a,()))
def F5(u0:Value)(a:Int)(b:List Int)(c d e f:Int):St:=ah [(0,xb 100000),(1,xi a),(4,xb 4),(100000,xb 100000)] [(100000,(98,[.bor u0 5 (.int .u8) b,yi c,yi d])),(4,(27,[yi e,yi f,.nil]))] []
def RP:ab:=⟨[0,1,4,100000],[100000,4],[],[],[]⟩
def F6(u0:Value)(a b:Int)(c:List Int)(d e f g:Int):St:=ah [(0,xb 100000),(1,xi a),(4,xb 4),(6,xi b),(100000,xb 100000)] [(100000,(98,[.bor u0 5 (.int .u8) c,yi d,yi e])),(4,(27,[yi f,yi g,.nil]))] []
def RQ:ab:=⟨[0,1,4,6,100000],[100000,4],[],[],[]⟩
def uL(u0:Value)(a b c:Int)(d:List Int)(e f g h:Int):St:=ah [(0,xb 100000),(1,xi a),(4,xb 4),(6,xi b),(7,xi c),(100000,xb 100000)] [(100000,(98,[.bor u0 5 (.int .u8) d,yi e,yi f])),(4,(27,[yi g,yi h,.nil]))] []
def F7:ab:=⟨[0,1,4,6,7,100000],[100000,4],[],[],[]⟩
def F8(u0:Value)(a b:Int)(c:List Int)(d e f g:Int):St:=ah [(0,xb 100000),(4,xb 4),(6,xi a),(7,xi b),(100000,xb 100000)] [(100000,(98,[.bor u0 5 (.int .u8) c,yi d,yi e])),(4,(27,[yi f,yi g,.nil]))] []
def RR:ab:=⟨[0,4,6,7,100000],[100000,4],[],[],[]⟩
def F9(u0:Value)(a b c:Int)(d:List Int)(e f g h:Int):St:=ah [(0,xb 100000),(4,xb 4),(6,xi a),(7,xi b),(64,xi c),(100000,xb 100000)] [(100000,(98,[.bor u0 5 (.int .u8) d,yi e,yi f])),(4,(27,[yi g,yi h,.nil]))] []
def RS:ab:=⟨[0,4,6,7,64,100000],[100000,4],[],[],[]⟩
def zU(u0:Value)(a b c:Int)(d:Bool)(e:List Int)(f g h i:Int):St:=ah [(0,xb 100000),(4,xb 4),(6,xi a),(7,xi b),(64,xi c),(65,xB d),(100000,xb 100000)] [(100000,(98,[.bor u0 5 (.int .u8) e,yi f,yi g])),(4,(27,[yi h,yi i,.nil]))] []
def RT:ab:=⟨[0,4,6,7,64,65,100000],[100000,4],[],[],[]⟩
def nI(u0:Value)(a:LI)(b c:Int)(d:List Int)(e f g h i j:Int):St:=ah [(0,xb 100000),(4,xb 4),(6,xi b),(7,xi c),(8,xb 8),(100000,xb 100000)] [(100000,(98,[.bor u0 5 (.int .u8) d,yi e,yi f])),(4,(27,[yi g,yi h,.nil])),(8,(27,[yi i,yi j,.own 20000514]))] [(20000514,(⟨3,.int .i64,a,true,false⟩:ae))]
def uM:ab:=⟨[0,4,6,7,8,100000],[100000,4,8],[],[],[(⟨true,8,2⟩,20000514)]⟩
def uN(u0:Value)(a:LI)(b c d:Int)(e:List Int)(f g h i j l:Int):St:=ah [(0,xb 100000),(4,xb 4),(6,xi b),(7,xi c),(8,xb 8),(9,xi d),(100000,xb 100000)] [(100000,(98,[.bor u0 5 (.int .u8) e,yi f,yi g])),(4,(27,[yi h,yi i,.nil])),(8,(27,[yi j,yi l,.own 20000514]))] [(20000514,(⟨3,.int .i64,a,true,false⟩:ae))]
def Ga:ab:=⟨[0,4,6,7,8,9,100000],[100000,4,8],[],[],[(⟨true,8,2⟩,20000514)]⟩
def zV(u0:Value)(a b:Int)(c:Bool)(d:List Int)(e f g h:Int):St:=ah [(0,xb 100000),(4,xb 4),(7,xi a),(64,xi b),(110,xB c),(100000,xb 100000)] [(100000,(98,[.bor u0 5 (.int .u8) d,yi e,yi f])),(4,(27,[yi g,yi h,.nil]))] []
def RU:ab:=⟨[0,4,7,64,110,100000],[100000,4],[],[],[]⟩
def zW(u0:Value)(a b:Int)(c:Bool)(d:List Int)(e f g h:Int):St:=ah [(0,xb 100000),(4,xb 4),(7,xi a),(64,xi b),(119,xB c),(100000,xb 100000)] [(100000,(98,[.bor u0 5 (.int .u8) d,yi e,yi f])),(4,(27,[yi g,yi h,.nil]))] []
def RV:ab:=⟨[0,4,7,64,119,100000],[100000,4],[],[],[]⟩
def zX(u0:Value)(a b:Int)(c:Bool)(d:List Int)(e f g h:Int):St:=ah [(0,xb 100000),(4,xb 4),(7,xi a),(64,xi b),(126,xB c),(100000,xb 100000)] [(100000,(98,[.bor u0 5 (.int .u8) d,yi e,yi f])),(4,(27,[yi g,yi h,.nil]))] []
def RW:ab:=⟨[0,4,7,64,126,100000],[100000,4],[],[],[]⟩
def Gb(u0:Value)(a:LI)(b:List Int)(c d e f g h:Int):St:=ah [(0,xb 100000),(4,xb 4),(12,xb 12),(100000,xb 100000)] [(100000,(98,[.bor u0 5 (.int .u8) b,yi c,yi d])),(4,(27,[yi e,yi f,.nil])),(12,(27,[yi g,yi h,.own 20000770]))] [(20000770,(⟨3,.int .i64,a,true,false⟩:ae))]
def RX:ab:=⟨[0,4,12,100000],[100000,4,12],[],[],[(⟨true,12,2⟩,20000770)]⟩
def uO(u0:Value)(a:LI)(b:Int)(c:List Int)(d e f g h i:Int):St:=ah [(0,xb 100000),(4,xb 4),(12,xb 12),(13,xi b),(100000,xb 100000)] [(100000,(98,[.bor u0 5 (.int .u8) c,yi d,yi e])),(4,(27,[yi f,yi g,.nil])),(12,(27,[yi h,yi i,.own 20000770]))] [(20000770,(⟨3,.int .i64,a,true,false⟩:ae))]
def Gc:ab:=⟨[0,4,12,13,100000],[100000,4,12],[],[],[(⟨true,12,2⟩,20000770)]⟩
def rY(u0:Value)(a:LI)(b c d e:Int)(f:List Int)(g h:Int):St:=ah [(4,xb 4),(12,xb 12),(100000,xb 100000)] [(4,(27,[yi b,yi c,.nil])),(12,(27,[yi d,yi e,.own 20000770])),(100000,(98,[.bor u0 5 (.int .u8) f,yi g,yi h]))] [(20000770,(⟨3,.int .i64,a,true,false⟩:ae))]
def zY:ab:=⟨[4,12,100000],[4,12,100000],[],[],[(⟨true,12,2⟩,20000770)]⟩
def zZ(u0:Value)(a:Int)(b:List Int)(c d e f:Int):St:=ah [(0,xb 100000),(4,xb 4),(7,xi a),(100000,xb 100000)] [(100000,(98,[.bor u0 5 (.int .u8) b,yi c,yi d])),(4,(27,[yi e,yi f,.nil]))] []
def nJ:ab:=⟨[0,4,7,100000],[100000,4],[],[],[]⟩
def Gd(u0:Value)(a:LI)(b:Int)(c:List Int)(d e f g h i:Int):St:=ah [(0,xb 100000),(4,xb 4),(7,xi b),(16,xb 16),(100000,xb 100000)] [(100000,(98,[.bor u0 5 (.int .u8) c,yi d,yi e])),(4,(27,[yi f,yi g,.nil])),(16,(27,[yi h,yi i,.own 20001026]))] [(20001026,(⟨3,.int .i64,a,true,false⟩:ae))]
def RY:ab:=⟨[0,4,7,16,100000],[100000,4,16],[],[],[(⟨true,16,2⟩,20001026)]⟩
def uP(u0:Value)(a:LI)(b c:Int)(d:List Int)(e f g h i j:Int):St:=ah [(0,xb 100000),(4,xb 4),(7,xi b),(16,xb 16),(17,xi c),(100000,xb 100000)] [(100000,(98,[.bor u0 5 (.int .u8) d,yi e,yi f])),(4,(27,[yi g,yi h,.nil])),(16,(27,[yi i,yi j,.own 20001026]))] [(20001026,(⟨3,.int .i64,a,true,false⟩:ae))]
def Ge:ab:=⟨[0,4,7,16,17,100000],[100000,4,16],[],[],[(⟨true,16,2⟩,20001026)]⟩
def rZ(u0:Value)(a:LI)(b c d e f:Int)(g:List Int)(h i:Int):St:=ah [(4,xb 4),(7,xi b),(16,xb 16),(100000,xb 100000)] [(4,(27,[yi c,yi d,.nil])),(16,(27,[yi e,yi f,.own 20001026])),(100000,(98,[.bor u0 5 (.int .u8) g,yi h,yi i]))] [(20001026,(⟨3,.int .i64,a,true,false⟩:ae))]
def z6:ab:=⟨[4,7,16,100000],[4,16,100000],[],[],[(⟨true,16,2⟩,20001026)]⟩
def lV(u0:Value)(a:LI)(b:ByteArray)(d e:Int)(f:List Int)(g h:Int):St:=ah [(4,xb 4),(5,.c (.str b)),(100000,xb 100000)] [(4,(27,[yi d,yi e,.own 20000258])),(100000,(98,[.bor u0 5 (.int .u8) f,yi g,yi h]))] [(20000258,(⟨3,.int .i64,a,true,false⟩:ae))]
def RZ:ab:=⟨[4,5,100000],[4,100000],[],[],[(⟨true,4,2⟩,20000258)]⟩
def R0:Nat->Option ab:=aA [(1,uM),(3,zY),(0,nJ),(5,z6),(1000000,RZ)]
abbrev dM{J:Type}(N n:Nat)(V:St)(l:ab)(K:KT J):Option J:=am F4 bg R0 N (aZ 99 (bm Tryz.f117) n) .n V (az (some l) K)
def R2 N u0 b0 r0 a (K:KT J):dM N 2 (RO u0 b0 r0 a) RP K =
 spec_dTree.Z1 N b0 r0 a (λa b c d e f=>K .nrm (F5 u0 a b c d e f)):=by kernel_rfl
def R3 N u0 a b c d e f (K:KT J):dM N 5 (F5 u0 a b c d e f) RQ K =
 spec_dTree.Z3 N a b c d e f (λa g b c d e f=>K .nrm (F6 u0 a g b c d e f)):=by kernel_rfl
def R4 N u0 a b c d e f g (K:KT J):dM N 11 (F6 u0 a b c d e f g) F7 K =
 spec_dTree.Z5 N a b c d e f g (λa b h c d e f g=>K .nrm (uL u0 a b h c d e f g)):=by kernel_rfl
def R5 N u0 a b c d e f g h (K:KT J):dM N 23 (uL u0 a b c d e f g h) F7 K =
 spec_dTree.Z7 N a b c d e f g h (λa b c d e f g h=>K .nrm (uL u0 a b c d e f g h)):=by kernel_rfl
def R6 N u0 h a b c d e f g (K:KT J):dM N 47 (uL u0 h a b c d e f g) RR K =
 spec_dTree.Z9 N h a b c d e f g (λa b c d e f g=>K .nrm (F8 u0 a b c d e f g)):=by kernel_rfl
def R7 N u0 a b c d e f g (K:KT J):dM N 159 (F8 u0 a b c d e f g) RS K =
 spec_dTree.Z12 N a b c d e f g (λa b h c d e f g=>K .nrm (F9 u0 a b h c d e f g)):=by kernel_rfl
def R8 N u0 a b c d e f g h (K:KT J):dM N 607 (F9 u0 a b c d e f g h) RT K =
 spec_dTree.Z15 N a b c d e f g h (λa b c i d e f g h=>K .nrm (zU u0 a b c i d e f g h)):=by kernel_rfl
def R9 N u0 a b h i c d e f g (K:KT J):dM N 2399 (zU u0 a b h i c d e f g) uM K =
 spec_dTree.Z18 N a b h i c d e f g (λj a b c d e f g l m=>K .nrm (nI u0 j a b c d e f g l m)):=by kernel_rfl
def Sa N u0 a b c d e f g h i j (K:KT J):dM N 9567 (nI u0 a b c d e f g h i j) Ga K =
 spec_dTree.Z21 N a b c d e f g h i j (λa b c l d e f g h i j=>K .nrm (uN u0 a b c l d e f g h i j)):=by kernel_rfl
def Sb N u0 a b c l d e f g h i j (K:KT J):dM N 38239 (uN u0 a b c l d e f g h i j) Ga K =
 spec_dTree.Z24 N a b c l d e f g h i j (λa b c l d e f g h i j=>K .nrm (uN u0 a b c l d e f g h i j)) (λa b c d e f g h i j=>K (.exit 1) (nI u0 a b c d e f g h i j)):=by kernel_rfl
def Sc N u0 (K:KT J):=q9 K (spec_dTree.Z23L N (λa b c d e f g h i j=>K (.exit 1) (nI u0 a b c d e f g h i j))) (λa b c l d e f g h i j k=>spec_dTree.Z24 N a b c l d e f g h i j k (λa b c d e f g h i j=>K (.exit 1) (nI u0 a b c d e f g h i j))) (λF a b c l d e f g h i j=>Sb N u0 a b c l d e f g h i j _) (by kernel_rfl)
def Sd N u0 a b c d e f g h i j l (K:KT J):=vL (uN u0 a b c d e f g h i j l) (Sc N u0 (jK uM K) N a b c d e f g h i j l) (by kernel_rfl)
def Se N u0 a b c l d e f g h i j (K:KT J):=vB 1 uM K (spec_dTree.Z22 N a b c l d e f g h i j (λa b c d e f g h i j=>K .nrm (nI u0 a b c d e f g h i j))) (Sd N u0 a b c l d e f g h i j _) (by kernel_rfl)
def Sf N u0 a b c d e f g h i j (K:KT J):=vQ (λk=>spec_dTree.Z21 N a b c d e f g h i j k) (Sa N u0 a b c d e f g h i j _) (gD λa b c l d e f g h i j=>Se N u0 a b c l d e f g h i j K)
def Sg N u0 f g h a b c d e i j (K:KT J):dM N 7519 (nI u0 f g h a b c d e i j) nJ K =
 spec_dTree.Z25 N f g h a b c d e i j (λl m d e a b c=>K .ret (lV u0 l m d e a b c)):=by kernel_rfl
def Sh N u0 a b c d e f g h i j (K:KT J):=vQ (λk=>spec_dTree.Z20 N a b c d e f g h i j k) (Sf N u0 a b c d e f g h i j _) (dz λa b c d e f g h i j=>Sg N u0 a b c d e f g h i j K)
def Si N u0 a b h i c d e f g (K:KT J):=vQ (λk=>spec_dTree.Z18 N a b h i c d e f g k) (R9 N u0 a b h i c d e f g _) (dz λj a b c d e f g l m=>Sh N u0 j a b c d e f g l m K)
def Sj N u0 h a b i c d e f g (K:KT J):dM N 2911 (zU u0 h a b i c d e f g) RU K =
 spec_dTree.Z27 N h a b i c d e f g (λa b j c d e f g=>K .nrm (zV u0 a b j c d e f g)):=by kernel_rfl
def Sk N u0 f g h a b c d e (K:KT J):dM N 5983 (zV u0 f g h a b c d e) nJ K =
 spec_dTree.Z29 N f g h a b c d e (λi j d e a b c=>K .ret (lV u0 i j d e a b c)):=by kernel_rfl
def Sl N u0 a b h c d e f g (K:KT J):dM N 12127 (zV u0 a b h c d e f g) RV K =
 spec_dTree.Z31 N a b h c d e f g (λa b i c d e f g=>K .nrm (zW u0 a b i c d e f g)):=by kernel_rfl
def Sm N u0 f g h a b c d e (K:KT J):dM N 24415 (zW u0 f g h a b c d e) nJ K =
 spec_dTree.Z33 N f g h a b c d e (λi j d e a b c=>K .ret (lV u0 i j d e a b c)):=by kernel_rfl
def Sn N u0 a b h c d e f g (K:KT J):dM N 48991 (zW u0 a b h c d e f g) RW K =
 spec_dTree.Z35 N a b h c d e f g (λa b i c d e f g=>K .nrm (zX u0 a b i c d e f g)):=by kernel_rfl
def So N u0 f g h a b c d e (K:KT J):dM N 163679 (zX u0 f g h a b c d e) RX K =
 spec_dTree.Z38 N f g h a b c d e (λi a b c d e j l=>K .nrm (Gb u0 i a b c d e j l)):=by kernel_rfl
def Sp N u0 a b c d e f g h (K:KT J):dM N 622431 (Gb u0 a b c d e f g h) Gc K =
 spec_dTree.Z41 N a b c d e f g h (λa i b c d e f g h=>K .nrm (uO u0 a i b c d e f g h)):=by kernel_rfl
def Sq N u0 a i b c d e f g h (K:KT J):dM N 2457439 (uO u0 a i b c d e f g h) Gc K =
 spec_dTree.Z44 N a i b c d e f g h (λa i b c d e f g h=>K .nrm (uO u0 a i b c d e f g h)) (λa e f g h b c d=>K (.exit 3) (rY u0 a e f g h b c d)):=by kernel_rfl
def Sr N u0 (K:KT J):=q8 K (spec_dTree.Z43L N (λa b c d e f g h=>K (.exit 3) (rY u0 a b c d e f g h))) (λa i f g h b c d e k=>spec_dTree.Z44 N a i f g h b c d e k (λa b c d e f g h=>K (.exit 3) (rY u0 a b c d e f g h))) (λF a i f g h b c d e=>Sq N u0 a i f g h b c d e _) (by kernel_rfl)
def Ss N u0 a b c d e f g h i (K:KT J):=vL (uO u0 a b c d e f g h i) (Sr N u0 (jK zY K) N a b c d e f g h i) (by kernel_rfl)
def Su N u0 a i b c d e f g h (K:KT J):=vB 3 zY K (spec_dTree.Z42 N a i b c d e f g h (λa e f g h b c d=>K .nrm (rY u0 a e f g h b c d))) (Ss N u0 a i b c d e f g h _) (by kernel_rfl)
def Sv N u0 a b c d e f g h (K:KT J):=vQ (λk=>spec_dTree.Z41 N a b c d e f g h k) (Sp N u0 a b c d e f g h _) (ee λa i b c d e f g h=>Su N u0 a i b c d e f g h K)
def Sw N u0 f a b g h c d e (K:KT J):dM N 491359 (rY u0 f a b g h c d e) nJ K =
 spec_dTree.Z45 N f a b g h c d e (λi j a b c d e=>K .ret (lV u0 i j a b c d e)):=by kernel_rfl
def Sx N u0 a b c d e f g h (K:KT J):=vQ (λk=>spec_dTree.Z40 N a b c d e f g h k) (Sv N u0 a b c d e f g h _) (dy λa e f g h b c d=>Sw N u0 a e f g h b c d K)
def Sy N u0 f g h a b c d e (K:KT J):=vQ (λk=>spec_dTree.Z38 N f g h a b c d e k) (So N u0 f g h a b c d e _) (dy λi a b c d e j l=>Sx N u0 i a b c d e j l K)
def Sz N u0 f g h a b c d e (K:KT J):dM N 130911 (zX u0 f g h a b c d e) nJ K =
 spec_dTree.Z46 N f g h a b c d e (λf a b c d e=>K .nrm (zZ u0 f a b c d e)) (λi j d e a b c=>K .ret (lV u0 i j d e a b c)):=by kernel_rfl
def SA N u0 b c a d e f g h (K:KT J):=vI (.tmp 126) (a) (Sy N u0 b c a d e f g h K) (Sz N u0 b c a d e f g h K) (by kernel_rfl)
def SB N u0 a b h c d e f g (K:KT J):=vQ (λk=>spec_dTree.Z35 N a b h c d e f g k) (Sn N u0 a b h c d e f g _) (dy λa b i c d e f g=>SA N u0 a b i c d e f g K)
def SC N u0 b c a d e f g h (K:KT J):=vI (.tmp 119) (a) (Sm N u0 b c a d e f g h K) (SB N u0 b c a d e f g h K) (by kernel_rfl)
def SD N u0 a b h c d e f g (K:KT J):=vQ (λk=>spec_dTree.Z31 N a b h c d e f g k) (Sl N u0 a b h c d e f g _) (dy λa b i c d e f g=>SC N u0 a b i c d e f g K)
def SE N u0 b c a d e f g h (K:KT J):=vI (.tmp 110) (a) (Sk N u0 b c a d e f g h K) (SD N u0 b c a d e f g h K) (by kernel_rfl)
def SF N u0 h a b i c d e f g (K:KT J):=vQ (λk=>spec_dTree.Z27 N h a b i c d e f g k) (Sj N u0 h a b i c d e f g _) (dy λa b j c d e f g=>SE N u0 a b j c d e f g K)
def SG N u0 b c d a e f g h i (K:KT J):=vI (.tmp 65) (a) (Si N u0 b c d a e f g h i K) (SF N u0 b c d a e f g h i K) (by kernel_rfl)
def SH N u0 a b c d e f g h (K:KT J):=vQ (λk=>spec_dTree.Z15 N a b c d e f g h k) (R8 N u0 a b c d e f g h _) (ee λa b c i d e f g h=>SG N u0 a b c i d e f g h K)
def SI N u0 g f h a b c d e (K:KT J):=vB 0 nJ K (spec_dTree.Z13 N g f h a b c d e (λf a b c d e=>K .nrm (zZ u0 f a b c d e)) (λi j d e a b c=>K .ret (lV u0 i j d e a b c))) (SH N u0 g f h a b c d e _) (by kernel_rfl)
def SJ N u0 a b c d e f g (K:KT J):=vQ (λk=>spec_dTree.Z12 N a b c d e f g k) (R7 N u0 a b c d e f g _) (dy λa b h c d e f g=>SI N u0 a b h c d e f g K)
def SK N u0 a b c d e f (K:KT J):dM N 191 (zZ u0 a b c d e f) RY K =
 spec_dTree.Z48 N a b c d e f (λg a b c d e f h i=>K .nrm (Gd u0 g a b c d e f h i)):=by kernel_rfl
def SL N u0 a b c d e f g h i (K:KT J):dM N 639 (Gd u0 a b c d e f g h i) Ge K =
 spec_dTree.Z51 N a b c d e f g h i (λa b j c d e f g h i=>K .nrm (uP u0 a b j c d e f g h i)):=by kernel_rfl
def SM N u0 a b j c d e f g h i (K:KT J):dM N 2431 (uP u0 a b j c d e f g h i) Ge K =
 spec_dTree.Z54 N a b j c d e f g h i (λa b j c d e f g h i=>K .nrm (uP u0 a b j c d e f g h i)) (λa b f g h i c d e=>K (.exit 5) (rZ u0 a b f g h i c d e)):=by kernel_rfl
def SN N u0 (K:KT J):=kH K (spec_dTree.Z53L N (λa b c d e f g h i=>K (.exit 5) (rZ u0 a b c d e f g h i))) (λa b j g h i c d e f k=>spec_dTree.Z54 N a b j g h i c d e f k (λa b c d e f g h i=>K (.exit 5) (rZ u0 a b c d e f g h i))) (λF a b j g h i c d e f=>SM N u0 a b j g h i c d e f _) (by kernel_rfl)
def SO N u0 a b c d e f g h i j (K:KT J):=vL (uP u0 a b c d e f g h i j) (SN N u0 (jK z6 K) N a b c d e f g h i j) (by kernel_rfl)
def SP N u0 a b j c d e f g h i (K:KT J):=vB 5 z6 K (spec_dTree.Z52 N a b j c d e f g h i (λa b f g h i c d e=>K .nrm (rZ u0 a b f g h i c d e))) (SO N u0 a b j c d e f g h i _) (by kernel_rfl)
def SQ N u0 a b c d e f g h i (K:KT J):=vQ (λk=>spec_dTree.Z51 N a b c d e f g h i k) (SL N u0 a b c d e f g h i _) (dz λa b j c d e f g h i=>SP N u0 a b j c d e f g h i K)
def SR N u0 f g a b h i c d e (K:KT J):dM N 511 (rZ u0 f g a b h i c d e) RN K =
 spec_dTree.Z55 N f g a b h i c d e (λj l a b c d e=>K .ret (lV u0 j l a b c d e)):=by kernel_rfl
def SS N u0 a b c d e f g h i (K:KT J):=vQ (λk=>spec_dTree.Z50 N a b c d e f g h i k) (SQ N u0 a b c d e f g h i _) (ee λa b f g h i c d e=>SR N u0 a b f g h i c d e K)
def ST N u0 a b c d e f (K:KT J):=vQ (λk=>spec_dTree.Z48 N a b c d e f k) (SK N u0 a b c d e f _) (ee λg a b c d e f h i=>SS N u0 g a b c d e f h i K)
def SU N u0 g f a b c d e (K:KT J):=vQ (λk=>spec_dTree.Z11 N g f a b c d e k (λh i d e a b c=>K .ret (lV u0 h i d e a b c))) (SJ N u0 g f a b c d e _) (cN λf a b c d e=>ST N u0 f a b c d e K)
def SW N u0 h a b c d e f g (K:KT J):=vQ (λk=>spec_dTree.Z9 N h a b c d e f g k) (R6 N u0 h a b c d e f g _) (fa λa b c d e f g=>SU N u0 a b c d e f g K)
def SX N u0 a b c d e f g h (K:KT J):=vQ (λk=>spec_dTree.Z7 N a b c d e f g h k) (R5 N u0 a b c d e f g h _) (dy λa b c d e f g h=>SW N u0 a b c d e f g h K)
def SY N u0 a b c d e f g (K:KT J):=vQ (λk=>spec_dTree.Z5 N a b c d e f g k) (R4 N u0 a b c d e f g _) (dy λa b h c d e f g=>SX N u0 a b h c d e f g K)
def SZ N u0 a b c d e f (K:KT J):=vQ (λk=>spec_dTree.Z3 N a b c d e f k) (R3 N u0 a b c d e f _) (fa λa g b c d e f=>SY N u0 a g b c d e f K)
def S2 N u0 b0 r0 a (K:KT J):=vQ (λk=>spec_dTree.Z1 N b0 r0 a k) (R2 N u0 b0 r0 a _) (cN λa b c d e f=>SZ N u0 a b c d e f K)
def S3(h:spec_dTree.Spec):dU Tryz.prog 117 zT :=
 kI Tryz.func117 bu RM (λN u X K=>S2 N u X.1.1.1 X.1.2 X.2.1 K) (by kernel_rfl) λu0 X hb1 hb2 hp=>by obtain⟨⟨⟨b0,_⟩,r0⟩,a,_⟩:=X;obtain⟨N,h⟩:=h [u0] b0 r0 a hb1.1 hp;exact⟨N,Eq.trans (by kernel_rfl) (h N (Nat.le_refl N))⟩
def S4:dU Tryz.prog 117 zT:=S3 spec_dTree.ok
def Gf:bc:=⟨[⟨.int .i64,false,false⟩,⟨.int .i64,false,false⟩,⟨.int .i64,false,false⟩],[⟨.bool,false,false⟩]⟩
def uQ:aQ:=⟨Gf,none,λX=>((),((hJ.g X.1 X.2.1 X.2.2.1),()))⟩
def Gg:Gm:=be
def S5:av Tryz.prog Gg:=av.nil
def S6:ab:=⟨[],[],[],[],[]⟩
def S7(a b c:Int):St:=bA Gf.ps (a,(b,(c,())))
def S8(a:Bool):St:=ah [(6,xB a)] [] []
def S9:ab:=⟨[6],[],[],[],[]⟩
def Ta:Nat->Option ab:=aA [(1000000,S9)]
abbrev Tb{J:Type}(N n:Nat)(V:St)(l:ab)(K:KT J):Option J:=am Gg bg Ta N (aZ 99 (bm Tryz.f104) n) .n V (az (some l) K)
def Tc N a b c (K:KT J):Tb N 1 (S7 a b c) S6 K =
 hJ.Z0 N a b c (λd=>K .ret (S8 d)):=by kernel_rfl
def Td(h:hJ.Spec):ay Tryz.prog 104 uQ :=
 bI Tryz.func104 bu S5 (λN X K=>Tc N X.1 X.2.1 X.2.2.1 K) (by kernel_rfl) λX hb hp=>by obtain⟨a,b,c,_⟩:=X;obtain⟨N,h⟩:=h a b c;exact⟨N,Eq.trans (by kernel_rfl) (h N (Nat.le_refl N))⟩
def Gh:ay Tryz.prog 104 uQ:=Td hJ.ok
def Gi:bc:=⟨[⟨.pair (.int .i64) (.pair (.int .i64) (.sl 3 (.int .i64))),true,false⟩,⟨.int .i64,false,false⟩,⟨.int .i64,false,false⟩],[⟨.int .i64,false,false⟩]⟩
def nK:aQ:=⟨Gi,(some λX=>bJ.P X.1 X.2.1 X.2.2.1),λX=>((),((bJ.g X.1 X.2.1 X.2.2.1),()))⟩
def Gj:Gm:=be
def Te:av Tryz.prog Gj:=av.nil
def Tf:ab:=⟨[],[],[],[],[]⟩
def Tg(a:MT)(b c:Int):St:=bA Gi.ps (a,(b,(c,())))
def Th(a:Int):St:=ah [(6,xi a)] [] []
def Ti:ab:=⟨[6],[],[],[],[]⟩
def Tj:Nat->Option ab:=aA [(1000000,Ti)]
abbrev Tk{J:Type}(N n:Nat)(V:St)(l:ab)(K:KT J):Option J:=am Gj bg Tj N (aZ 99 (bm Tryz.f105) n) .n V (az (some l) K)
def Tl N a b c (K:KT J):Tk N 1 (Tg a b c) Tf K =
 bJ.Z0 N a b c (λd=>K .ret (Th d)):=by kernel_rfl
def Tm(h:bJ.Spec):ay Tryz.prog 105 nK :=
 bI Tryz.func105 bu Te (λN X K=>Tl N X.1 X.2.1 X.2.2.1 K) (by kernel_rfl) λX hb hp=>by obtain⟨a,b,c,_⟩:=X;obtain⟨N,h⟩:=h a b c hb.1 hp;exact⟨N,Eq.trans (by kernel_rfl) (h N (Nat.le_refl N))⟩
def r6:ay Tryz.prog 105 nK:=Tm bJ.ok
def Gk:bc:=⟨[⟨.pair (.int .i64) (.pair (.int .i64) (.sl 3 (.int .i64))),true,false⟩],[⟨.bool,false,false⟩]⟩
def uR:aQ:=⟨Gk,none,λX=>((),((ck.g X.1),()))⟩
def Gl:Gm:=aK (aK be 104 uQ) 105 nK
def Tn:av Tryz.prog Gl:=((av.nil).add Gh (by kernel_rfl)).add r6 (by kernel_rfl)
def To:ab:=⟨[],[],[],[],[]⟩
def Tq(a:MT):St:=bA Gk.ps (a,())
def kR(a b:Int)(c:LI):St:=ah [(1,xb 1)] [(1,(27,[yi a,yi b,.sn 3 tI c none]))] []
def r7:ab:=⟨[1],[1],[],[],[]⟩
def uS(a b c:Int)(d:LI):St:=ah [(1,xb 1),(3,xi a)] [(1,(27,[yi b,yi c,.sn 3 tI d none]))] []
def Gn:ab:=⟨[1,3],[1],[],[],[]⟩
def jh(a b c:Int)(d:LI):St:=ah [(1,xb 1),(4,xi a)] [(1,(27,[yi b,yi c,.sn 3 tI d none]))] []
def lW:ab:=⟨[1,4],[1],[],[],[]⟩
def uT(a b c d:Int)(e:LI):St:=ah [(1,xb 1),(4,xi a),(5,xi b)] [(1,(27,[yi c,yi d,.sn 3 tI e none]))] []
def Gp:ab:=⟨[1,4,5],[1],[],[],[]⟩
def po :St:=ah [] [] []
def z8:ab:=⟨[],[],[],[],[]⟩
def fM(a:Bool):St:=ah [(2,xB a)] [] []
def Tr:ab:=⟨[2],[],[],[],[]⟩
def Ts:Nat->Option ab:=aA [(0,r7),(4,lW),(3,lW),(2,z8),(1000000,Tr)]
abbrev kf{J:Type}(N n:Nat)(V:St)(l:ab)(K:KT J):Option J:=am Gl bg Ts N (aZ 99 (bm Tryz.f65) n) .n V (az (some l) K)
def Tt N a (K:KT J):kf N 2 (Tq a) r7 K =
 ck.Z1 N a (λb c d=>K .nrm (kR b c d)):=by kernel_rfl
def Tu N a b c (K:KT J):kf N 5 (kR a b c) r7 K =
 ck.Z3 N a b c (λa b c=>K .nrm (kR a b c)) (λd=>K .ret (fM d)):=by kernel_rfl
def Tv N a b c (K:KT J):kf N 19 (kR a b c) Gn K =
 ck.Z6 N a b c (λd a b c=>K .nrm (uS d a b c)):=by kernel_rfl
def Tw N d a b c (K:KT J):kf N 75 (uS d a b c) Gn K =
 ck.Z9 N d a b c (λd a b c=>K .nrm (uS d a b c)) (λa b c=>K (.exit 0) (kR a b c)) (λe=>K .ret (fM e)):=by kernel_rfl
def Tx N (K:KT J):=q7 K (ck.Z8L N (λa b c=>K (.exit 0) (kR a b c)) (λd=>K .ret (fM d))) (λe a b c k=>ck.Z9 N e a b c k (λa b c=>K (.exit 0) (kR a b c)) (λd=>K .ret (fM d))) (λF e a b c=>Tw N e a b c _) (by kernel_rfl)
def Tz N a b c d (K:KT J):=vL (uS a b c d) (Tx N (jK r7 K) N a b c d) (by kernel_rfl)
def TA N d a b c (K:KT J):=vB 0 r7 K (ck.Z7 N d a b c (λa b c=>K .nrm (kR a b c)) (λe=>K .ret (fM e))) (Tz N d a b c _) (by kernel_rfl)
def TB N a b c (K:KT J):=vQ (λk=>ck.Z6 N a b c k) (Tv N a b c _) (eO λd a b c=>TA N d a b c K)
def TC N a b c (K:KT J):kf N 39 (kR a b c) lW K =
 ck.Z12 N a b c (λd a b c=>K .nrm (jh d a b c)):=by kernel_rfl
def TD N a b c d (K:KT J):kf N 279 (jh a b c d) lW K =
 ck.Z16 N a b c d (λa b c d=>K .nrm (jh a b c d)) (K (.exit 2) po):=by kernel_rfl
def TE N a b c d (K:KT J):kf N 2199 (jh a b c d) Gp K =
 ck.Z20 N a b c d (λa e b c d=>K .nrm (uT a e b c d)):=by kernel_rfl
def TF N a e b c d (K:KT J):kf N 9367 (uT a e b c d) Gp K =
 ck.Z23 N a e b c d (λa e b c d=>K .nrm (uT a e b c d)) (λa b c d=>K (.exit 4) (jh a b c d)) (λf=>K .ret (fM f)):=by kernel_rfl
def TG N (K:KT J):=lE K (ck.Z22L N (λa b c d=>K (.exit 4) (jh a b c d)) (λe=>K .ret (fM e))) (λa f b c d k=>ck.Z23 N a f b c d k (λa b c d=>K (.exit 4) (jh a b c d)) (λe=>K .ret (fM e))) (λF a f b c d=>TF N a f b c d _) (by kernel_rfl)
def TH N a b c d e (K:KT J):=vL (uT a b c d e) (TG N (jK lW K) N a b c d e) (by kernel_rfl)
def TJ N a e b c d (K:KT J):=vB 4 lW K (ck.Z21 N a e b c d (λa b c d=>K .nrm (jh a b c d)) (λf=>K .ret (fM f))) (TH N a e b c d _) (by kernel_rfl)
def TK N a b c d (K:KT J):=vQ (λk=>ck.Z20 N a b c d k) (TE N a b c d _) (cH λa e b c d=>TJ N a e b c d K)
def TL N a b c d (K:KT J):=vB 3 lW K (ck.Z18 N a b c d (λa b c d=>K .nrm (jh a b c d)) (λe=>K .ret (fM e))) (TK N a b c d _) (by kernel_rfl)
def TM N a b c d (K:KT J):kf N 919 (jh a b c d) lW K =
 ck.Z24 N a b c d (λa b c d=>K .nrm (jh a b c d)):=by kernel_rfl
def TN N a b c d (K:KT J):=vQ (λk=>ck.Z18 N a b c d k (λe=>K .ret (fM e))) (TL N a b c d _) (eO λa b c d=>TM N a b c d K)
def TO N a b c d (K:KT J):=vQ (λk=>ck.Z16 N a b c d k (K (.exit 2) po)) (TD N a b c d _) (eO λa b c d=>TN N a b c d K)
def TP N (K:KT J):=q7 K (ck.Z14L N (K (.exit 2) po) (λa=>K .ret (fM a))) (λb c d e k=>ck.Z15 N b c d e k (K (.exit 2) po) (λa=>K .ret (fM a))) (λF b c d e=>TO N b c d e _) (by kernel_rfl)
def TQ N a b c d (K:KT J):=vL (jh a b c d) (TP N (jK z8 K) N a b c d) (by kernel_rfl)
def TR N a b c d (K:KT J):=vB 2 z8 K (ck.Z13 N a b c d (K .nrm po) (λe=>K .ret (fM e))) (TQ N a b c d _) (by kernel_rfl)
def TS N a b c (K:KT J):=vQ (λk=>ck.Z12 N a b c k) (TC N a b c _) (eO λd a b c=>TR N d a b c K)
def TT N  (K:KT J):kf N 31 po To K =
 ck.Z25 N (λa=>K .ret (fM a)):=by kernel_rfl
def TU N a b c (K:KT J):=vQ (λk=>ck.Z11 N a b c k (λd=>K .ret (fM d))) (TS N a b c _) (TT N K)
def TV N a b c (K:KT J):=vQ (λk=>ck.Z5 N a b c k (λd=>K .ret (fM d))) (TB N a b c _) (cW λa b c=>TU N a b c K)
def TW N a b c (K:KT J):=vQ (λk=>ck.Z3 N a b c k (λd=>K .ret (fM d))) (Tu N a b c _) (cW λa b c=>TV N a b c K)
def TX N a (K:KT J):=vQ (λk=>ck.Z1 N a k) (Tt N a _) (cW λb c d=>TW N b c d K)
def TY(h:ck.Spec):ay Tryz.prog 65 uR :=
 bI Tryz.func65 bu Tn (λN X K=>TX N X.1 K) (by kernel_rfl) λX hb hp=>by obtain⟨a,_⟩:=X;obtain⟨N,h⟩:=h a hb.1;exact⟨N,Eq.trans (by kernel_rfl) (h N (Nat.le_refl N))⟩
def Gq:ay Tryz.prog 65 uR:=TY ck.ok
def Gr:bc:=⟨[⟨.sl 3 (.int .i64),false,false⟩,⟨.int .i64,false,false⟩],[⟨.bool,false,false⟩]⟩
def Aa:aQ:=⟨Gr,none,λX=>((),((eL.g X.1 X.2.1),()))⟩
def Gs:Gm:=be
def TZ:av Tryz.prog Gs:=av.nil
def T0:ab:=⟨[],[],[],[],[]⟩
def T1(a:LI)(b:Int):St:=bA Gr.ps (a,(b,()))
def Gt(a:LI)(b:Int):St:=ah [(0,.c (.sn 3 tI a none)),(1,xi b)] [] []
def T4:ab:=⟨[0,1],[],[],[],[]⟩
def uU(a:LI)(b d:Int):St:=ah [(0,.c (.sn 3 tI a none)),(1,xi b),(5,xi d)] [] []
def Gu:ab:=⟨[0,1,5],[],[],[],[]⟩
def r8 :St:=ah [] [] []
def Ab:ab:=⟨[],[],[],[],[]⟩
def pt(a:Bool):St:=ah [(4,xB a)] [] []
def T5:ab:=⟨[4],[],[],[],[]⟩
def T6:Nat->Option ab:=aA [(0,Ab),(1000000,T5)]
abbrev uV{J:Type}(N n:Nat)(V:St)(l:ab)(K:KT J):Option J:=am Gs bg T6 N (aZ 99 (bm Tryz.f72) n) .n V (az (some l) K)
def T7 N a b (K:KT J):uV N 2 (T1 a b) T4 K =
 eL.Z1 N a b (λa b=>K .nrm (Gt a b)):=by kernel_rfl
def T8 N a b (K:KT J):uV N 9 (Gt a b) Gu K =
 eL.Z4 N a b (λa b c=>K .nrm (uU a b c)):=by kernel_rfl
def T9 N a b c (K:KT J):uV N 37 (uU a b c) Gu K =
 eL.Z7 N a b c (λa b c=>K .nrm (uU a b c)) (K (.exit 0) r8) (λd=>K .ret (pt d)):=by kernel_rfl
def Ua N (K:KT J):=j0 K (eL.Z6L N (K (.exit 0) r8) (λa=>K .ret (pt a))) (λb c d k=>eL.Z7 N b c d k (K (.exit 0) r8) (λa=>K .ret (pt a))) (λF b c d=>T9 N b c d _) (by kernel_rfl)
def Ub N a b c (K:KT J):=vL (uU a b c) (Ua N (jK Ab K) N a b c) (by kernel_rfl)
def Uc N a b c (K:KT J):=vB 0 Ab K (eL.Z5 N a b c (K .nrm r8) (λd=>K .ret (pt d))) (Ub N a b c _) (by kernel_rfl)
def Ud N a b (K:KT J):=vQ (λk=>eL.Z4 N a b k) (T8 N a b _) (cW λa b c=>Uc N a b c K)
def Ue N  (K:KT J):uV N 7 r8 T0 K =
 eL.Z8 N (λa=>K .ret (pt a)):=by kernel_rfl
def Uf N a b (K:KT J):=vQ (λk=>eL.Z3 N a b k (λc=>K .ret (pt c))) (Ud N a b _) (Ue N K)
def Ug N a b (K:KT J):=vQ (λk=>eL.Z1 N a b k) (T7 N a b _) (eN λa b=>Uf N a b K)
def Uh(h:eL.Spec):ay Tryz.prog 72 Aa :=
 bI Tryz.func72 bu TZ (λN X K=>Ug N X.1 X.2.1 K) (by kernel_rfl) λX hb hp=>by obtain⟨a,b,_⟩:=X;obtain⟨N,h⟩:=h a b hb.1;exact⟨N,Eq.trans (by kernel_rfl) (h N (Nat.le_refl N))⟩
def Ui:ay Tryz.prog 72 Aa:=Uh eL.ok
def Gv:bc:=⟨[⟨.pair (.int .i64) (.pair (.int .i64) (.sl 3 (.int .i64))),true,false⟩,⟨.int .i64,false,false⟩],[⟨.sl 3 (.int .i64),false,false⟩,⟨.sl 3 (.int .i64),false,false⟩]⟩
def Ac:aQ:=⟨Gv,(some λX=>cr.P X.1 X.2.1),λX=>((),((cr.g X.1 X.2.1).1,((cr.g X.1 X.2.1).2,())))⟩
def Gw:Gm:=aK (aK be 72 Aa) 105 nK
def Uj:av Tryz.prog Gw:=((av.nil).add Ui (by kernel_rfl)).add r6 (by kernel_rfl)
def Uk:ab:=⟨[],[],[],[],[]⟩
def Ul(a:MT)(b:Int):St:=bA Gv.ps (a,(b,()))
def Gx(a b c:Int)(d:LI):St:=ah [(1,xi a),(2,xb 2)] [(2,(27,[yi b,yi c,.sn 3 tI d none]))] []
def Um:ab:=⟨[1,2],[2],[],[],[]⟩
def Gy(a:LI)(b c d:Int)(e:LI):St:=ah [(1,xi b),(2,xb 2),(6,xo 1000384)] [(2,(27,[yi c,yi d,.sn 3 tI e none]))] [(1000384,(⟨3,.int .i64,a,true,false⟩:ae))]
def Un:ab:=⟨[1,2,6],[2],[],[],[(⟨false,6,0⟩,1000384)]⟩
def Gz(a b:LI)(c d:Int)(e:LI):St:=ah [(2,xb 2),(6,xo 1000384),(7,xo 1000448)] [(2,(27,[yi c,yi d,.sn 3 tI e none]))] [(1000384,(⟨3,.int .i64,a,true,false⟩:ae)),(1000448,(⟨3,.int .i64,b,true,false⟩:ae))]
def Uo:ab:=⟨[2,6,7],[2],[],[],[(⟨false,6,0⟩,1000384),(⟨false,7,0⟩,1000448)]⟩
def ji(a b:LI)(c d e:Int)(f:LI):St:=ah [(2,xb 2),(6,xo 1000384),(7,xo 1000448),(8,xi c)] [(2,(27,[yi d,yi e,.sn 3 tI f none]))] [(1000384,(⟨3,.int .i64,a,true,false⟩:ae)),(1000448,(⟨3,.int .i64,b,true,false⟩:ae))]
def lX:ab:=⟨[2,6,7,8],[2],[],[],[(⟨false,6,0⟩,1000384),(⟨false,7,0⟩,1000448)]⟩
def uW(a b:LI)(c d e f:Int)(g:LI):St:=ah [(2,xb 2),(6,xo 1000384),(7,xo 1000448),(8,xi c),(9,xi d)] [(2,(27,[yi e,yi f,.sn 3 tI g none]))] [(1000384,(⟨3,.int .i64,a,true,false⟩:ae)),(1000448,(⟨3,.int .i64,b,true,false⟩:ae))]
def GA:ab:=⟨[2,6,7,8,9],[2],[],[],[(⟨false,6,0⟩,1000384),(⟨false,7,0⟩,1000448)]⟩
def pA(a b:LI):St:=ah [(6,xo 1000384),(7,xo 1000448)] [] [(1000384,(⟨3,.int .i64,a,true,false⟩:ae)),(1000448,(⟨3,.int .i64,b,true,false⟩:ae))]
def Ad:ab:=⟨[6,7],[],[],[],[(⟨false,6,0⟩,1000384),(⟨false,7,0⟩,1000448)]⟩
def Up(a b:LI):St:=ah [(4,xo 1000256),(5,xo 1000320)] [] [(1000256,(⟨3,.int .i64,a,true,false⟩:ae)),(1000320,(⟨3,.int .i64,b,true,false⟩:ae))]
def Uq:ab:=⟨[4,5],[],[],[],[(⟨false,4,0⟩,1000256),(⟨false,5,0⟩,1000320)]⟩
def Ur:Nat->Option ab:=aA [(2,lX),(1,lX),(0,Ad),(1000000,Uq)]
abbrev kS{J:Type}(N n:Nat)(V:St)(l:ab)(K:KT J):Option J:=am Gw bg Ur N (aZ 99 (bm Tryz.f73) n) .n V (az (some l) K)
def Us N b a (K:KT J):kS N 2 (Ul b a) Um K =
 cr.Z1 N b a (λa c d e=>K .nrm (Gx a c d e)):=by kernel_rfl
def Ut N a b c d (K:KT J):kS N 5 (Gx a b c d) Un K =
 cr.Z3 N a b c d (λe a b c d=>K .nrm (Gy e a b c d)):=by kernel_rfl
def Uu N a e b c d (K:KT J):kS N 11 (Gy a e b c d) Uo K =
 cr.Z5 N a e b c d (λa f b c d=>K .nrm (Gz a f b c d)):=by kernel_rfl
def Uv N a b c d e (K:KT J):kS N 39 (Gz a b c d e) lX K =
 cr.Z8 N a b c d e (λa b f c d e=>K .nrm (ji a b f c d e)):=by kernel_rfl
def Uw N a b c d e f (K:KT J):kS N 279 (ji a b c d e f) lX K =
 cr.Z12 N a b c d e f (λa b c d e f=>K .nrm (ji a b c d e f)) (λa b=>K (.exit 0) (pA a b)):=by kernel_rfl
def Ux N a b c d e f (K:KT J):kS N 2199 (ji a b c d e f) GA K =
 cr.Z16 N a b c d e f (λa b c g d e f=>K .nrm (uW a b c g d e f)):=by kernel_rfl
def Uy N a b c g d e f (K:KT J):kS N 9367 (uW a b c g d e f) GA K =
 cr.Z19 N a b c g d e f (λa b c g d e f=>K .nrm (uW a b c g d e f)) (λa b c d e f=>K (.exit 2) (ji a b c d e f)):=by kernel_rfl
def Uz N (K:KT J):=nn K (cr.Z18L N (λa b c d e f=>K (.exit 2) (ji a b c d e f))) (λa b c g d e f k=>cr.Z19 N a b c g d e f k (λa b c d e f=>K (.exit 2) (ji a b c d e f))) (λF a b c g d e f=>Uy N a b c g d e f _) (by kernel_rfl)
def UA N a b c d e f g (K:KT J):=vL (uW a b c d e f g) (Uz N (jK lX K) N a b c d e f g) (by kernel_rfl)
def UB N a b c g d e f (K:KT J):=vB 2 lX K (cr.Z17 N a b c g d e f (λa b c d e f=>K .nrm (ji a b c d e f))) (UA N a b c g d e f _) (by kernel_rfl)
def UC N a b c d e f (K:KT J):=vQ (λk=>cr.Z16 N a b c d e f k) (Ux N a b c d e f _) (fa λa b c g d e f=>UB N a b c g d e f K)
def UD N a b c d e f (K:KT J):=vB 1 lX K (cr.Z14 N a b c d e f (λa b c d e f=>K .nrm (ji a b c d e f))) (UC N a b c d e f _) (by kernel_rfl)
def UE N a b c d e f (K:KT J):kS N 919 (ji a b c d e f) lX K =
 cr.Z20 N a b c d e f (λa b c d e f=>K .nrm (ji a b c d e f)):=by kernel_rfl
def UF N a b c d e f (K:KT J):=vQ (λk=>cr.Z14 N a b c d e f k) (UD N a b c d e f _) (cN λa b c d e f=>UE N a b c d e f K)
def UG N a b c d e f (K:KT J):=vQ (λk=>cr.Z12 N a b c d e f k (λa b=>K (.exit 0) (pA a b))) (Uw N a b c d e f _) (cN λa b c d e f=>UF N a b c d e f K)
def UH N (K:KT J):=lF K (cr.Z10L N (λa b=>K (.exit 0) (pA a b))) (λa b c d e f k=>cr.Z11 N a b c d e f k (λa b=>K (.exit 0) (pA a b))) (λF a b c d e f=>UG N a b c d e f _) (by kernel_rfl)
def UI N a b c d e f (K:KT J):=vL (ji a b c d e f) (UH N (jK Ad K) N a b c d e f) (by kernel_rfl)
def UJ N a b c d e f (K:KT J):=vB 0 Ad K (cr.Z9 N a b c d e f (λa b=>K .nrm (pA a b))) (UI N a b c d e f _) (by kernel_rfl)
def UK N a b c d e (K:KT J):=vQ (λk=>cr.Z8 N a b c d e k) (Uv N a b c d e _) (cN λa b f c d e=>UJ N a b f c d e K)
def UL N a b (K:KT J):kS N 31 (pA a b) Uk K =
 cr.Z21 N a b (λc d=>K .ret (Up c d)):=by kernel_rfl
def UM N a b c d e (K:KT J):=vQ (λk=>cr.Z7 N a b c d e k) (UK N a b c d e _) (eN λa b=>UL N a b K)
def UN N a e b c d (K:KT J):=vQ (λk=>cr.Z5 N a e b c d k) (Uu N a e b c d _) (cH λa f b c d=>UM N a f b c d K)
def UO N a b c d (K:KT J):=vQ (λk=>cr.Z3 N a b c d k) (Ut N a b c d _) (cH λe a b c d=>UN N e a b c d K)
def UP N b a (K:KT J):=vQ (λk=>cr.Z1 N b a k) (Us N b a _) (eO λa c d e=>UO N a c d e K)
def UQ(h:cr.Spec):ay Tryz.prog 73 Ac :=
 bI Tryz.func73 bu Uj (λN X K=>UP N X.1 X.2.1 K) (by kernel_rfl) λX hb hp=>by obtain⟨a,b,_⟩:=X;obtain⟨N,h⟩:=h a b hb.1 hp;exact⟨N,Eq.trans (by kernel_rfl) (h N (Nat.le_refl N))⟩
def UR:ay Tryz.prog 73 Ac:=UQ cr.ok
def GB:bc:=⟨[⟨.int .i64,false,false⟩],[⟨.int .i64,false,false⟩]⟩
def Ae:aQ:=⟨GB,none,λX=>((),((gJ.g X.1),()))⟩
def GC:Gm:=be
def US:av Tryz.prog GC:=av.nil
def UT:ab:=⟨[],[],[],[],[]⟩
def UU(a:Int):St:=bA GB.ps (a,())
def UV(a:Int):St:=ah [(2,xi a)] [] []
def UW:ab:=⟨[2],[],[],[],[]⟩
def UX:Nat->Option ab:=aA [(1000000,UW)]
abbrev UY{J:Type}(N n:Nat)(V:St)(l:ab)(K:KT J):Option J:=am GC bg UX N (aZ 99 (bm Tryz.f106) n) .n V (az (some l) K)
def UZ N a (K:KT J):UY N 1 (UU a) UT K =
 gJ.Z0 N a (λb=>K .ret (UV b)):=by kernel_rfl
def U0(h:gJ.Spec):ay Tryz.prog 106 Ae :=
 bI Tryz.func106 bu US (λN X K=>UZ N X.1 K) (by kernel_rfl) λX hb hp=>by obtain⟨a,_⟩:=X;obtain⟨N,h⟩:=h a;exact⟨N,Eq.trans (by kernel_rfl) (h N (Nat.le_refl N))⟩
def U1:ay Tryz.prog 106 Ae:=U0 gJ.ok
def GD:bc:=⟨[⟨.int .i64,false,false⟩,⟨.int .i64,false,false⟩],[⟨.int .i64,false,false⟩]⟩
def Af:aQ:=⟨GD,(some λX=>fw.P X.1 X.2.1),λX=>((),((fw.g X.1 X.2.1),()))⟩
def GE:Gm:=be
def U2:av Tryz.prog GE:=av.nil
def U3:ab:=⟨[],[],[],[],[]⟩
def U4(a b:Int):St:=bA GD.ps (a,(b,()))
def uX(a b:Int):St:=ah [(0,xi a),(1,xi b)] [] []
def GF:ab:=⟨[0,1],[],[],[],[]⟩
def r9(a:Int):St:=ah [(0,xi a)] [] []
def Ag:ab:=⟨[0],[],[],[],[]⟩
def U5(a:Int):St:=ah [(4,xi a)] [] []
def U6:ab:=⟨[4],[],[],[],[]⟩
def U7:Nat->Option ab:=aA [(0,Ag),(1000000,U6)]
abbrev Ah{J:Type}(N n:Nat)(V:St)(l:ab)(K:KT J):Option J:=am GE bg U7 N (aZ 99 (bm Tryz.f107) n) .n V (az (some l) K)
def U8 N a b (K:KT J):Ah N 2 (U4 a b) GF K =
 fw.Z1 N a b (λa b=>K .nrm (uX a b)):=by kernel_rfl
def U9 N a b (K:KT J):Ah N 17 (uX a b) GF K =
 fw.Z5 N a b (λa b=>K .nrm (uX a b)) (λa=>K (.exit 0) (r9 a)):=by kernel_rfl
def Va N (K:KT J):=yF K (fw.Z4L N (λa=>K (.exit 0) (r9 a))) (λa b k=>fw.Z5 N a b k (λa=>K (.exit 0) (r9 a))) (λF a b=>U9 N a b _) (by kernel_rfl)
def Vb N a b (K:KT J):=vL (uX a b) (Va N (jK Ag K) N a b) (by kernel_rfl)
def Vc N a b (K:KT J):=vB 0 Ag K (fw.Z3 N a b (λa=>K .nrm (r9 a))) (Vb N a b _) (by kernel_rfl)
def Vd N a (K:KT J):Ah N 7 (r9 a) U3 K =
 fw.Z6 N a (λb=>K .ret (U5 b)):=by kernel_rfl
def Ve N a b (K:KT J):=vQ (λk=>fw.Z3 N a b k) (Vc N a b _) (funext λa=>Vd N a K)
def Vf N a b (K:KT J):=vQ (λk=>fw.Z1 N a b k) (U8 N a b _) (eN λa b=>Ve N a b K)
def Vg(h:fw.Spec):ay Tryz.prog 107 Af :=
 bI Tryz.func107 bu U2 (λN X K=>Vf N X.1 X.2.1 K) (by kernel_rfl) λX hb hp=>by obtain⟨a,b,_⟩:=X;obtain⟨N,h⟩:=h a b hp;exact⟨N,Eq.trans (by kernel_rfl) (h N (Nat.le_refl N))⟩
def Vh:ay Tryz.prog 107 Af:=Vg fw.ok
def GG:bc:=⟨[⟨.pair (.int .i64) (.pair (.int .i64) (.sl 3 (.int .i64))),true,false⟩],[⟨.sl 3 (.int .i64),false,false⟩,⟨.bool,false,false⟩]⟩
def Ai:aQ:=⟨GG,(some λX=>aV.P X.1),λX=>((),((aV.g X.1).1,((aV.g X.1).2,())))⟩
def GH:Gm:=aK (aK (aK (aK be 73 Ac) 105 nK) 106 Ae) 107 Af
def Vi:av Tryz.prog GH:=((((av.nil).add UR (by kernel_rfl)).add r6 (by kernel_rfl)).add U1 (by kernel_rfl)).add Vh (by kernel_rfl)
def Vj:ab:=⟨[],[],[],[],[]⟩
def Vk(a:MT):St:=bA GG.ps (a,())
def GI(a b:Int)(c:LI):St:=ah [(1,xb 1)] [(1,(27,[yi a,yi b,.sn 3 tI c none]))] []
def Vl:ab:=⟨[1],[1],[],[],[]⟩
def lY(a:LI)(b c:Int)(d:LI):St:=ah [(1,xb 1),(4,xo 1000256)] [(1,(27,[yi b,yi c,.sn 3 tI d none]))] [(1000256,(⟨3,.int .i64,a,true,false⟩:ae))]
def uY:ab:=⟨[1,4],[1],[],[],[(⟨false,4,0⟩,1000256)]⟩
def gw(a:LI)(b c d:Int)(e:LI):St:=ah [(1,xb 1),(4,xo 1000256),(5,xi b)] [(1,(27,[yi c,yi d,.sn 3 tI e none]))] [(1000256,(⟨3,.int .i64,a,true,false⟩:ae))]
def kT:ab:=⟨[1,4,5],[1],[],[],[(⟨false,4,0⟩,1000256)]⟩
def kU(a b c:LI)(d e f:Int)(g:LI):St:=ah [(1,xb 1),(4,xo 1000256),(5,xi d),(6,xo 1000384),(7,xo 1000448)] [(1,(27,[yi e,yi f,.sn 3 tI g none]))] [(1000256,(⟨3,.int .i64,a,true,false⟩:ae)),(1000384,(⟨3,.int .i64,b,true,false⟩:ae)),(1000448,(⟨3,.int .i64,c,true,false⟩:ae))]
def sa:ab:=⟨[1,4,5,6,7],[1],[],[],[(⟨false,4,0⟩,1000256),(⟨false,6,0⟩,1000384),(⟨false,7,0⟩,1000448)]⟩
def uZ(a b c:LI)(d e f g:Int)(h:LI):St:=ah [(1,xb 1),(4,xo 1000256),(5,xi d),(6,xo 1000384),(7,xo 1000448),(8,xi e)] [(1,(27,[yi f,yi g,.sn 3 tI h none]))] [(1000256,(⟨3,.int .i64,a,true,false⟩:ae)),(1000384,(⟨3,.int .i64,b,true,false⟩:ae)),(1000448,(⟨3,.int .i64,c,true,false⟩:ae))]
def GJ:ab:=⟨[1,4,5,6,7,8],[1],[],[],[(⟨false,4,0⟩,1000256),(⟨false,6,0⟩,1000384),(⟨false,7,0⟩,1000448)]⟩
def GK(a b c:LI)(d e f g:Int)(h:LI):St:=ah [(1,xb 1),(4,xo 1000256),(5,xi d),(6,xo 1000384),(7,xo 1000448),(9,xi e)] [(1,(27,[yi f,yi g,.sn 3 tI h none]))] [(1000256,(⟨3,.int .i64,a,true,false⟩:ae)),(1000384,(⟨3,.int .i64,b,true,false⟩:ae)),(1000448,(⟨3,.int .i64,c,true,false⟩:ae))]
def Vm:ab:=⟨[1,4,5,6,7,9],[1],[],[],[(⟨false,4,0⟩,1000256),(⟨false,6,0⟩,1000384),(⟨false,7,0⟩,1000448)]⟩
def u3(a b c:LI)(d e f g h:Int)(i:LI):St:=ah [(1,xb 1),(4,xo 1000256),(5,xi d),(6,xo 1000384),(7,xo 1000448),(9,xi e),(10,xi f)] [(1,(27,[yi g,yi h,.sn 3 tI i none]))] [(1000256,(⟨3,.int .i64,a,true,false⟩:ae)),(1000384,(⟨3,.int .i64,b,true,false⟩:ae)),(1000448,(⟨3,.int .i64,c,true,false⟩:ae))]
def GL:ab:=⟨[1,4,5,6,7,9,10],[1],[],[],[(⟨false,4,0⟩,1000256),(⟨false,6,0⟩,1000384),(⟨false,7,0⟩,1000448)]⟩
def sb(a b:LI)(c d e f:Int)(g:LI):St:=ah [(1,xb 1),(4,xo 1000256),(5,xi c),(6,xo 1000384),(9,xi d)] [(1,(27,[yi e,yi f,.sn 3 tI g none]))] [(1000256,(⟨3,.int .i64,a,true,false⟩:ae)),(1000384,(⟨3,.int .i64,b,true,false⟩:ae))]
def Aj:ab:=⟨[1,4,5,6,9],[1],[],[],[(⟨false,4,0⟩,1000256),(⟨false,6,0⟩,1000384)]⟩
def u4(a b:LI)(c d e f g:Int)(h:LI):St:=ah [(1,xb 1),(4,xo 1000256),(5,xi c),(6,xo 1000384),(9,xi d),(11,xi e)] [(1,(27,[yi f,yi g,.sn 3 tI h none]))] [(1000256,(⟨3,.int .i64,a,true,false⟩:ae)),(1000384,(⟨3,.int .i64,b,true,false⟩:ae))]
def GM:ab:=⟨[1,4,5,6,9,11],[1],[],[],[(⟨false,4,0⟩,1000256),(⟨false,6,0⟩,1000384)]⟩
def jj(a:LI)(b c d:Int)(e:LI):St:=ah [(1,xb 1),(4,xo 1000256),(12,xi b)] [(1,(27,[yi c,yi d,.sn 3 tI e none]))] [(1000256,(⟨3,.int .i64,a,true,false⟩:ae))]
def lZ:ab:=⟨[1,4,12],[1],[],[],[(⟨false,4,0⟩,1000256)]⟩
def u5(a:LI)(b c d e:Int)(f:LI):St:=ah [(1,xb 1),(4,xo 1000256),(12,xi b),(13,xi c)] [(1,(27,[yi d,yi e,.sn 3 tI f none]))] [(1000256,(⟨3,.int .i64,a,true,false⟩:ae))]
def GN:ab:=⟨[1,4,12,13],[1],[],[],[(⟨false,4,0⟩,1000256)]⟩
def pB(a:LI):St:=ah [(4,xo 1000256)] [] [(1000256,(⟨3,.int .i64,a,true,false⟩:ae))]
def Ak:ab:=⟨[4],[],[],[],[(⟨false,4,0⟩,1000256)]⟩
def jM(a:LI)(b:Bool):St:=ah [(2,xo 1000128),(3,xB b)] [] [(1000128,(⟨3,.int .i64,a,true,false⟩:ae))]
def Vn:ab:=⟨[2,3],[],[⟨⟨false,2,0⟩,30000000,3,.int .i64,true⟩],[],[(⟨false,2,0⟩,1000128)]⟩
def Vo:Nat->Option ab:=aA [(2,sa),(4,Aj),(6,kT),(1,kT),(0,uY),(10,lZ),(9,lZ),(8,Ak),(1000000,Vn)]
abbrev eK{J:Type}(N n:Nat)(V:St)(l:ab)(K:KT J):Option J:=am GH bg Vo N (aZ 99 (bm Tryz.f66) n) .n V (az (some l) K)
def Vp N a (K:KT J):eK N 2 (Vk a) Vl K =
 aV.Z1 N a (λb c d=>K .nrm (GI b c d)):=by kernel_rfl
def Vq N a b c (K:KT J):eK N 5 (GI a b c) uY K =
 aV.Z3 N a b c (λd a b c=>K .nrm (lY d a b c)):=by kernel_rfl
def Vr N a b c d (K:KT J):eK N 19 (lY a b c d) kT K =
 aV.Z6 N a b c d (λa e b c d=>K .nrm (gw a e b c d)):=by kernel_rfl
def Vs N a e b c d (K:KT J):eK N 139 (gw a e b c d) kT K =
 aV.Z10 N a e b c d (λa e b c d=>K .nrm (gw a e b c d)) (λa b c d=>K (.exit 0) (lY a b c d)):=by kernel_rfl
def Vt N a b c d e (K:KT J):eK N 1099 (gw a b c d e) kT K =
 aV.Z14 N a b c d e (λa b c d e=>K .nrm (gw a b c d e)) (λa b c d e=>K (.exit 1) (gw a b c d e)):=by kernel_rfl
def Vu N a b c d e (K:KT J):eK N 2635 (gw a b c d e) sa K =
 aV.Z16 N a b c d e (λa f g b c d e=>K .nrm (kU a f g b c d e)):=by kernel_rfl
def Vv N a b c d e f g (K:KT J):eK N 5707 (kU a b c d e f g) sa K =
 aV.Z18 N a b c d e f g (λa b c d e f g=>K .nrm (kU a b c d e f g)):=by kernel_rfl
def Vw N a b c d e f g (K:KT J):eK N 20043 (kU a b c d e f g) GJ K =
 aV.Z21 N a b c d e f g (λa b c d h e f g=>K .nrm (uZ a b c d h e f g)):=by kernel_rfl
def Vx N a b c d h e f g (K:KT J):eK N 77387 (uZ a b c d h e f g) GJ K =
 aV.Z24 N a b c d h e f g (λa b c d h e f g=>K .nrm (uZ a b c d h e f g)) (λa b c d e f g=>K (.exit 2) (kU a b c d e f g)):=by kernel_rfl
def Vy N (K:KT J):=lG K (aV.Z23L N (λa b c d e f g=>K (.exit 2) (kU a b c d e f g))) (λa b c d h e f g k=>aV.Z24 N a b c d h e f g k (λa b c d e f g=>K (.exit 2) (kU a b c d e f g))) (λF a b c d h e f g=>Vx N a b c d h e f g _) (by kernel_rfl)
def Vz N a b c d e f g h (K:KT J):=vL (uZ a b c d e f g h) (Vy N (jK sa K) N a b c d e f g h) (by kernel_rfl)
def VA N a b c d h e f g (K:KT J):=vB 2 sa K (aV.Z22 N a b c d h e f g (λa b c d e f g=>K .nrm (kU a b c d e f g))) (Vz N a b c d h e f g _) (by kernel_rfl)
def VB N a b c d e f g (K:KT J):=vQ (λk=>aV.Z21 N a b c d e f g k) (Vw N a b c d e f g _) (dy λa b c d h e f g=>VA N a b c d h e f g K)
def VC N a b c d e f g (K:KT J):eK N 24139 (kU a b c d e f g) Vm K =
 aV.Z26 N a b c d e f g (λa b c d h e f g=>K .nrm (GK a b c d h e f g)):=by kernel_rfl
def VD N a b c d e f g h (K:KT J):eK N 81483 (GK a b c d e f g h) GL K =
 aV.Z29 N a b c d e f g h (λa b c d e i f g h=>K .nrm (u3 a b c d e i f g h)):=by kernel_rfl
def VE N a b h c d i e f g (K:KT J):eK N 310859 (u3 a b h c d i e f g) GL K =
 aV.Z32 N a b h c d i e f g (λa b h c d i e f g=>K .nrm (u3 a b h c d i e f g)) (λa b c d e f g=>K (.exit 4) (sb a b c d e f g)):=by kernel_rfl
def VF N (K:KT J):=q8 K (aV.Z31L N (λa b c d e f g=>K (.exit 4) (sb a b c d e f g))) (λa b h c d i e f g k=>aV.Z32 N a b h c d i e f g k (λa b c d e f g=>K (.exit 4) (sb a b c d e f g))) (λF a b h c d i e f g=>VE N a b h c d i e f g _) (by kernel_rfl)
def VG N a b c d e f g h i (K:KT J):=vL (u3 a b c d e f g h i) (VF N (jK Aj K) N a b c d e f g h i) (by kernel_rfl)
def VH N a b h c d i e f g (K:KT J):=vB 4 Aj K (aV.Z30 N a b h c d i e f g (λa b c d e f g=>K .nrm (sb a b c d e f g))) (VG N a b h c d i e f g _) (by kernel_rfl)
def VI N a b c d e f g h (K:KT J):=vQ (λk=>aV.Z29 N a b c d e f g h k) (VD N a b c d e f g h _) (ee λa b c d e i f g h=>VH N a b c d e i f g h K)
def VJ N a b c d e f g (K:KT J):eK N 97867 (sb a b c d e f g) GM K =
 aV.Z34 N a b c d e f g (λa b c d h e f g=>K .nrm (u4 a b c d h e f g)):=by kernel_rfl
def VK N a f b g h c d e (K:KT J):eK N 327243 (u4 a f b g h c d e) GM K =
 aV.Z37 N a f b g h c d e (λa f b g h c d e=>K .nrm (u4 a f b g h c d e)) (λa b c d e=>K (.exit 6) (gw a b c d e)):=by kernel_rfl
def VL N (K:KT J):=lG K (aV.Z36L N (λa b c d e=>K (.exit 6) (gw a b c d e))) (λa f b g h c d e k=>aV.Z37 N a f b g h c d e k (λa b c d e=>K (.exit 6) (gw a b c d e))) (λF a f b g h c d e=>VK N a f b g h c d e _) (by kernel_rfl)
def VM N a b c d e f g h (K:KT J):=vL (u4 a b c d e f g h) (VL N (jK kT K) N a b c d e f g h) (by kernel_rfl)
def VN N a f b g h c d e (K:KT J):=vB 6 kT K (aV.Z35 N a f b g h c d e (λa b c d e=>K .nrm (gw a b c d e))) (VM N a f b g h c d e _) (by kernel_rfl)
def VO N a b c d e f g (K:KT J):=vQ (λk=>aV.Z34 N a b c d e f g k) (VJ N a b c d e f g _) (dy λa b c d h e f g=>VN N a b c d h e f g K)
def VP N a b h c d e f g (K:KT J):=vQ (λk=>aV.Z28 N a b h c d e f g k) (VI N a b h c d e f g _) (fa λa b c d e f g=>VO N a b c d e f g K)
def VQ N a b c d e f g (K:KT J):=vQ (λk=>aV.Z26 N a b c d e f g k) (VC N a b c d e f g _) (dy λa b c d h e f g=>VP N a b c d h e f g K)
def VR N a b c d e f g (K:KT J):=vQ (λk=>aV.Z20 N a b c d e f g k) (VB N a b c d e f g _) (fa λa b c d e f g=>VQ N a b c d e f g K)
def VS N a b c d e f g (K:KT J):=vQ (λk=>aV.Z18 N a b c d e f g k) (Vv N a b c d e f g _) (fa λa b c d e f g=>VR N a b c d e f g K)
def VT N a b c d e (K:KT J):=vQ (λk=>aV.Z16 N a b c d e k) (Vu N a b c d e _) (fa λa f g b c d e=>VS N a f g b c d e K)
def VU N a b c d e (K:KT J):=vQ (λk=>aV.Z14 N a b c d e k (λa b c d e=>K (.exit 1) (gw a b c d e))) (Vt N a b c d e _) (cH λa b c d e=>VT N a b c d e K)
def VV N a b c d e (K:KT J):=vB 1 kT K (aV.Z12 N a b c d e (λa b c d e=>K .nrm (gw a b c d e))) (VU N a b c d e _) (by kernel_rfl)
def VW N a b c d e (K:KT J):eK N 459 (gw a b c d e) kT K =
 aV.Z38 N a b c d e (λa b c d e=>K .nrm (gw a b c d e)):=by kernel_rfl
def VX N a b c d e (K:KT J):=vQ (λk=>aV.Z12 N a b c d e k) (VV N a b c d e _) (cH λa b c d e=>VW N a b c d e K)
def VY N a e b c d (K:KT J):=vQ (λk=>aV.Z10 N a e b c d k (λa b c d=>K (.exit 0) (lY a b c d))) (Vs N a e b c d _) (cH λa e b c d=>VX N a e b c d K)
def VZ N (K:KT J):=lE K (aV.Z8L N (λa b c d=>K (.exit 0) (lY a b c d))) (λa e b c d k=>aV.Z9 N a e b c d k (λa b c d=>K (.exit 0) (lY a b c d))) (λF a e b c d=>VY N a e b c d _) (by kernel_rfl)
def V0 N a b c d e (K:KT J):=vL (gw a b c d e) (VZ N (jK uY K) N a b c d e) (by kernel_rfl)
def V1 N a e b c d (K:KT J):=vB 0 uY K (aV.Z7 N a e b c d (λa b c d=>K .nrm (lY a b c d))) (V0 N a e b c d _) (by kernel_rfl)
def V2 N a b c d (K:KT J):=vQ (λk=>aV.Z6 N a b c d k) (Vr N a b c d _) (cH λa e b c d=>V1 N a e b c d K)
def V3 N a b c d (K:KT J):eK N 39 (lY a b c d) lZ K =
 aV.Z41 N a b c d (λa e b c d=>K .nrm (jj a e b c d)):=by kernel_rfl
def V4 N a b c d e (K:KT J):eK N 279 (jj a b c d e) lZ K =
 aV.Z45 N a b c d e (λa b c d e=>K .nrm (jj a b c d e)) (λa=>K (.exit 8) (pB a)):=by kernel_rfl
def V5 N a b c d e (K:KT J):eK N 2199 (jj a b c d e) GN K =
 aV.Z49 N a b c d e (λa b f c d e=>K .nrm (u5 a b f c d e)):=by kernel_rfl
def V6 N a b f c d e (K:KT J):eK N 9367 (u5 a b f c d e) GN K =
 aV.Z52 N a b f c d e (λa b f c d e=>K .nrm (u5 a b f c d e)) (λa b c d e=>K (.exit 10) (jj a b c d e)) (λg h=>K .ret (jM g h)):=by kernel_rfl
def V7 N (K:KT J):=lF K (aV.Z51L N (λa b c d e=>K (.exit 10) (jj a b c d e)) (λf g=>K .ret (jM f g))) (λa b h c d e k=>aV.Z52 N a b h c d e k (λa b c d e=>K (.exit 10) (jj a b c d e)) (λf g=>K .ret (jM f g))) (λF a b h c d e=>V6 N a b h c d e _) (by kernel_rfl)
def V8 N a b c d e f (K:KT J):=vL (u5 a b c d e f) (V7 N (jK lZ K) N a b c d e f) (by kernel_rfl)
def V9 N a b f c d e (K:KT J):=vB 10 lZ K (aV.Z50 N a b f c d e (λa b c d e=>K .nrm (jj a b c d e)) (λg h=>K .ret (jM g h))) (V8 N a b f c d e _) (by kernel_rfl)
def Wa N a b c d e (K:KT J):=vQ (λk=>aV.Z49 N a b c d e k) (V5 N a b c d e _) (cN λa b f c d e=>V9 N a b f c d e K)
def Wb N a b c d e (K:KT J):=vB 9 lZ K (aV.Z47 N a b c d e (λa b c d e=>K .nrm (jj a b c d e)) (λf g=>K .ret (jM f g))) (Wa N a b c d e _) (by kernel_rfl)
def Wc N a b c d e (K:KT J):eK N 919 (jj a b c d e) lZ K =
 aV.Z53 N a b c d e (λa b c d e=>K .nrm (jj a b c d e)):=by kernel_rfl
def Wd N a b c d e (K:KT J):=vQ (λk=>aV.Z47 N a b c d e k (λf g=>K .ret (jM f g))) (Wb N a b c d e _) (cH λa b c d e=>Wc N a b c d e K)
def We N a b c d e (K:KT J):=vQ (λk=>aV.Z45 N a b c d e k (λa=>K (.exit 8) (pB a))) (V4 N a b c d e _) (cH λa b c d e=>Wd N a b c d e K)
def Wf N (K:KT J):=lE K (aV.Z43L N (λa=>K (.exit 8) (pB a)) (λb c=>K .ret (jM b c))) (λa d e f g k=>aV.Z44 N a d e f g k (λa=>K (.exit 8) (pB a)) (λb c=>K .ret (jM b c))) (λF a d e f g=>We N a d e f g _) (by kernel_rfl)
def Wg N a b c d e (K:KT J):=vL (jj a b c d e) (Wf N (jK Ak K) N a b c d e) (by kernel_rfl)
def Wh N a b c d e (K:KT J):=vB 8 Ak K (aV.Z42 N a b c d e (λa=>K .nrm (pB a)) (λf g=>K .ret (jM f g))) (Wg N a b c d e _) (by kernel_rfl)
def Wi N a b c d (K:KT J):=vQ (λk=>aV.Z41 N a b c d k) (V3 N a b c d _) (cH λa e b c d=>Wh N a e b c d K)
def Wj N a (K:KT J):eK N 31 (pB a) Vj K =
 aV.Z54 N a (λb c=>K .ret (jM b c)):=by kernel_rfl
def Wk N a b c d (K:KT J):=vQ (λk=>aV.Z40 N a b c d k (λe f=>K .ret (jM e f))) (Wi N a b c d _) (funext λa=>Wj N a K)
def Wl N a b c d (K:KT J):=vQ (λk=>aV.Z5 N a b c d k) (V2 N a b c d _) (eO λa b c d=>Wk N a b c d K)
def Wm N a b c (K:KT J):=vQ (λk=>aV.Z3 N a b c k) (Vq N a b c _) (eO λd a b c=>Wl N d a b c K)
def Wn N a (K:KT J):=vQ (λk=>aV.Z1 N a k) (Vp N a _) (cW λb c d=>Wm N b c d K)
def Wo(h:aV.Spec):ay Tryz.prog 66 Ai :=
 bI Tryz.func66 bu Vi (λN X K=>Wn N X.1 K) (by kernel_rfl) λX hb hp=>by obtain⟨a,_⟩:=X;obtain⟨N,h⟩:=h a hb.1 hp;exact⟨N,Eq.trans (by kernel_rfl) (h N (Nat.le_refl N))⟩
def Wp:ay Tryz.prog 66 Ai:=Wo aV.ok
def GO:bc:=⟨[⟨.pair (.int .i64) (.pair (.int .i64) (.sl 3 (.int .i64))),true,false⟩],[⟨.bool,false,false⟩]⟩
def Al:aQ:=⟨GO,none,λX=>((),((kX.g X.1),()))⟩
def GP:Gm:=aK (aK be 65 uR) 66 Ai
def Wq:av Tryz.prog GP:=((av.nil).add Gq (by kernel_rfl)).add Wp (by kernel_rfl)
def Wr:ab:=⟨[],[],[],[],[]⟩
def Ws(a:MT):St:=bA GO.ps (a,())
def Wu(a:Bool):St:=ah [(2,xB a)] [] []
def Wv:ab:=⟨[2],[],[],[],[]⟩
def Ww:Nat->Option ab:=aA [(1000000,Wv)]
abbrev Wx{J:Type}(N n:Nat)(V:St)(l:ab)(K:KT J):Option J:=am GP bg Ww N (aZ 99 (bm Tryz.f25) n) .n V (az (some l) K)
def Wy N a (K:KT J):Wx N 1 (Ws a) Wr K =
 kX.Z0 N a (λb=>K .ret (Wu b)):=by kernel_rfl
def Wz(h:kX.Spec):ay Tryz.prog 25 Al :=
 bI Tryz.func25 bu Wq (λN X K=>Wy N X.1 K) (by kernel_rfl) λX hb hp=>by obtain⟨a,_⟩:=X;obtain⟨N,h⟩:=h a hb.1;exact⟨N,Eq.trans (by kernel_rfl) (h N (Nat.le_refl N))⟩
def WA:ay Tryz.prog 25 Al:=Wz kX.ok
def GQ:bc:=⟨[⟨.sl 3 (.int .i64),false,false⟩],[⟨.sl 3 (.int .i64),false,false⟩]⟩
def Am:aQ:=⟨GQ,(some λX=>jr.P X.1),λX=>((),((jr.g X.1),()))⟩
def GR:Gm:=be
def WB:av Tryz.prog GR:=av.nil
def WC:ab:=⟨[],[],[],[],[]⟩
def WD(a:LI):St:=bA GQ.ps (a,())
def WE(a:LI):St:=ah [(2,xo 1000128)] [] [(1000128,(⟨3,.int .i64,a,true,false⟩:ae))]
def WF:ab:=⟨[2],[],[],[],[(⟨false,2,0⟩,1000128)]⟩
def WG:Nat->Option ab:=aA [(1000000,WF)]
abbrev WH{J:Type}(N n:Nat)(V:St)(l:ab)(K:KT J):Option J:=am GR bg WG N (aZ 99 (bm Tryz.f46) n) .n V (az (some l) K)
def WI N a (K:KT J):WH N 1 (WD a) WC K =
 jr.Z0 N a (λb=>K .ret (WE b)):=by kernel_rfl
def WJ(h:jr.Spec):ay Tryz.prog 46 Am :=
 bI Tryz.func46 bu WB (λN X K=>WI N X.1 K) (by kernel_rfl) λX hb hp=>by obtain⟨a,_⟩:=X;obtain⟨N,h⟩:=h a hb.1 hp;exact⟨N,Eq.trans (by kernel_rfl) (h N (Nat.le_refl N))⟩
def WK:ay Tryz.prog 46 Am:=WJ jr.ok
def GS:bc:=⟨[⟨.pair (.int .i64) (.pair (.int .i64) (.sl 3 (.int .i64))),true,false⟩],[⟨.pair (.int .i64) (.pair (.int .i64) (.sl 3 (.int .i64))),true,false⟩]⟩
def u6:aQ:=⟨GS,(some λX=>fO.P X.1),λX=>((),((fO.g X.1),()))⟩
def GT:Gm:=aK be 46 Am
def WL:av Tryz.prog GT:=(av.nil).add WK (by kernel_rfl)
def WM:ab:=⟨[],[],[],[],[]⟩
def WN(a:MT):St:=bA GS.ps (a,())
def WO(a:LI)(b c:Int):St:=ah [(2,xb 2)] [(2,(27,[yi b,yi c,.own 20000130]))] [(20000130,(⟨3,.int .i64,a,true,false⟩:ae))]
def WP:ab:=⟨[2],[2],[],[],[(⟨true,2,2⟩,20000130)]⟩
def WQ:Nat->Option ab:=aA [(1000000,WP)]
abbrev WR{J:Type}(N n:Nat)(V:St)(l:ab)(K:KT J):Option J:=am GT bg WQ N (aZ 99 (bm Tryz.f70) n) .n V (az (some l) K)
def WS N a (K:KT J):WR N 1 (WN a) WM K =
 fO.Z0 N a (λb c d=>K .ret (WO b c d)):=by kernel_rfl
def WT(h:fO.Spec):ay Tryz.prog 70 u6 :=
 bI Tryz.func70 bu WL (λN X K=>WS N X.1 K) (by kernel_rfl) λX hb hp=>by obtain⟨a,_⟩:=X;obtain⟨N,h⟩:=h a hb.1 hp;exact⟨N,Eq.trans (by kernel_rfl) (h N (Nat.le_refl N))⟩
def GU:ay Tryz.prog 70 u6:=WT fO.ok
def GV:bc:=⟨[⟨.pair (.int .i64) (.pair (.int .i64) (.sl 3 (.int .i64))),true,false⟩,⟨.int .i64,false,false⟩],[⟨.pair (.int .i64) (.pair (.int .i64) (.sl 3 (.int .i64))),true,false⟩]⟩
def An:aQ:=⟨GV,(some λX=>bQ.P X.1 X.2.1),λX=>((),((bQ.g X.1 X.2.1),()))⟩
def GW:Gm:=aK (aK be 70 u6) 105 nK
def WU:av Tryz.prog GW:=((av.nil).add GU (by kernel_rfl)).add r6 (by kernel_rfl)
def WV:ab:=⟨[],[],[],[],[]⟩
def WW(a:MT)(b:Int):St:=bA GV.ps (a,(b,()))
def GX(a b c:Int)(d:LI)(e f:Int):St:=ah [(1,xi a),(2,xb 2),(4,xb 4)] [(2,(27,[yi b,yi c,.sn 3 tI d none])),(4,(27,[yi e,yi f,.nil]))] []
def WX:ab:=⟨[1,2,4],[2,4],[],[],[]⟩
def GY(a:LI)(b c d:Int)(e:LI)(f g h i:Int):St:=ah [(1,xi b),(2,xb 2),(4,xb 4),(5,xb 5)] [(2,(27,[yi c,yi d,.sn 3 tI e none])),(4,(27,[yi f,yi g,.nil])),(5,(27,[yi h,yi i,.own 20000322]))] [(20000322,(⟨3,.int .i64,a,true,false⟩:ae))]
def WY:ab:=⟨[1,2,4,5],[2,4,5],[],[],[(⟨true,5,2⟩,20000322)]⟩
def iD(a:LI)(b c d e:Int)(f:LI)(g h i j:Int):St:=ah [(1,xi b),(2,xb 2),(4,xb 4),(5,xb 5),(6,xi c)] [(2,(27,[yi d,yi e,.sn 3 tI f none])),(4,(27,[yi g,yi h,.nil])),(5,(27,[yi i,yi j,.own 20000322]))] [(20000322,(⟨3,.int .i64,a,true,false⟩:ae))]
def l0:ab:=⟨[1,2,4,5,6],[2,4,5],[],[],[(⟨true,5,2⟩,20000322)]⟩
def ki(a:LI)(b c d e f:Int)(g:LI)(h i j l:Int):St:=ah [(1,xi b),(2,xb 2),(4,xb 4),(5,xb 5),(6,xi c),(7,xi d)] [(2,(27,[yi e,yi f,.sn 3 tI g none])),(4,(27,[yi h,yi i,.nil])),(5,(27,[yi j,yi l,.own 20000322]))] [(20000322,(⟨3,.int .i64,a,true,false⟩:ae))]
def l5:ab:=⟨[1,2,4,5,6,7],[2,4,5],[],[],[(⟨true,5,2⟩,20000322)]⟩
def GZ(a:LI)(b c d e f g:Int)(h:LI)(i j l m:Int):St:=ah [(1,xi b),(2,xb 2),(4,xb 4),(5,xb 5),(6,xi c),(7,xi d),(8,xi e)] [(2,(27,[yi f,yi g,.sn 3 tI h none])),(4,(27,[yi i,yi j,.nil])),(5,(27,[yi l,yi m,.own 20000322]))] [(20000322,(⟨3,.int .i64,a,true,false⟩:ae))]
def WZ:ab:=⟨[1,2,4,5,6,7,8],[2,4,5],[],[],[(⟨true,5,2⟩,20000322)]⟩
def G0(a:LI)(b c d e f g h:Int)(i:LI)(j l m o:Int):St:=ah [(1,xi b),(2,xb 2),(4,xb 4),(5,xb 5),(6,xi c),(7,xi d),(8,xi e),(9,xi f)] [(2,(27,[yi g,yi h,.sn 3 tI i none])),(4,(27,[yi j,yi l,.nil])),(5,(27,[yi m,yi o,.own 20000322]))] [(20000322,(⟨3,.int .i64,a,true,false⟩:ae))]
def W0:ab:=⟨[1,2,4,5,6,7,8,9],[2,4,5],[],[],[(⟨true,5,2⟩,20000322)]⟩
def G1(a:LI)(b c d e f:Int)(g:Bool)(h i:Int)(j:LI)(l m o p:Int):St:=ah [(1,xi b),(2,xb 2),(4,xb 4),(5,xb 5),(6,xi c),(7,xi d),(8,xi e),(9,xi f),(32,xB g)] [(2,(27,[yi h,yi i,.sn 3 tI j none])),(4,(27,[yi l,yi m,.nil])),(5,(27,[yi o,yi p,.own 20000322]))] [(20000322,(⟨3,.int .i64,a,true,false⟩:ae))]
def W3:ab:=⟨[1,2,4,5,6,7,8,9,32],[2,4,5],[],[],[(⟨true,5,2⟩,20000322)]⟩
def pC(a:LI)(b c d e:Int):St:=ah [(4,xb 4),(5,xb 5)] [(4,(27,[yi b,yi c,.nil])),(5,(27,[yi d,yi e,.own 20000322]))] [(20000322,(⟨3,.int .i64,a,true,false⟩:ae))]
def Ao:ab:=⟨[4,5],[4,5],[],[],[(⟨true,5,2⟩,20000322)]⟩
def W4(a:LI)(b c:Int):St:=ah [(4,xb 4)] [(4,(27,[yi b,yi c,.own 20000258]))] [(20000258,(⟨3,.int .i64,a,true,false⟩:ae))]
def W5:ab:=⟨[4],[4],[],[],[(⟨true,4,2⟩,20000258)]⟩
def W6:Nat->Option ab:=aA [(4,l5),(3,l5),(2,l0),(1,l0),(0,Ao),(1000000,W5)]
abbrev iE{J:Type}(N n:Nat)(V:St)(l:ab)(K:KT J):Option J:=am GW bg W6 N (aZ 99 (bm Tryz.f87) n) .n V (az (some l) K)
def W7 N b a (K:KT J):iE N 2 (WW b a) WX K =
 bQ.Z1 N b a (λa c d e f g=>K .nrm (GX a c d e f g)):=by kernel_rfl
def W8 N a b c d e f (K:KT J):iE N 5 (GX a b c d e f) WY K =
 bQ.Z3 N a b c d e f (λg a b c d e f h i=>K .nrm (GY g a b c d e f h i)):=by kernel_rfl
def W9 N a b c d e f g h i (K:KT J):iE N 19 (GY a b c d e f g h i) l0 K =
 bQ.Z6 N a b c d e f g h i (λa b j c d e f g h i=>K .nrm (iD a b j c d e f g h i)):=by kernel_rfl
def Xa N a f g h i j b c d e (K:KT J):iE N 139 (iD a f g h i j b c d e) l0 K =
 bQ.Z10 N a f g h i j b c d e (λa f g h i j b c d e=>K .nrm (iD a f g h i j b c d e)) (λa b c d e=>K (.exit 0) (pC a b c d e)):=by kernel_rfl
def Xb N a b c d e f g h i j (K:KT J):iE N 1099 (iD a b c d e f g h i j) l5 K =
 bQ.Z14 N a b c d e f g h i j (λa b c l d e f g h i j=>K .nrm (ki a b c l d e f g h i j)):=by kernel_rfl
def Xc N a b c l d e f g h i j (K:KT J):iE N 8779 (ki a b c l d e f g h i j) l5 K =
 bQ.Z18 N a b c l d e f g h i j (λa b c l d e f g h i j=>K .nrm (ki a b c l d e f g h i j)) (λa b c d e f g h i j=>K (.exit 2) (iD a b c d e f g h i j)):=by kernel_rfl
def Xd N a b c d e f g h i j l (K:KT J):iE N 70219 (ki a b c d e f g h i j l) WZ K =
 bQ.Z22 N a b c d e f g h i j l (λa b c d m e f g h i j l=>K .nrm (GZ a b c d m e f g h i j l)):=by kernel_rfl
def Xe N a b c d e f g h i j l m (K:KT J):iE N 168523 (GZ a b c d e f g h i j l m) W0 K =
 bQ.Z24 N a b c d e f g h i j l m (λa b c d e o f g h i j l m=>K .nrm (G0 a b c d e o f g h i j l m)):=by kernel_rfl
def Xf N a b c d e f g h i j l m o (K:KT J):iE N 627275 (G0 a b c d e f g h i j l m o) W3 K =
 bQ.Z27 N a b c d e f g h i j l m o (λa b c d e f p g h i j l m o=>K .nrm (G1 a b c d e f p g h i j l m o)):=by kernel_rfl
def Xg N a b c d m o p e f g h i j l (K:KT J):iE N 889419 (G1 a b c d m o p e f g h i j l) l5 K =
 bQ.Z28 N a b c d m o p e f g h i j l (λa b c d e f g h i j l=>K .nrm (ki a b c d e f g h i j l)):=by kernel_rfl
def Xh N a b c d e f g h i j l m o (K:KT J):=vQ (λk=>bQ.Z27 N a b c d e f g h i j l m o k) (Xf N a b c d e f g h i j l m o _) (tU λa b c d e f p g h i j l m o=>Xg N a b c d e f p g h i j l m o K)
def Xi N a b c d m o e f g h i j l (K:KT J):=vB 4 l5 K (bQ.Z25 N a b c d m o e f g h i j l (λa b c d e f g h i j l=>K .nrm (ki a b c d e f g h i j l))) (Xh N a b c d m o e f g h i j l _) (by kernel_rfl)
def Xj N a b c d e f g h i j l m (K:KT J):=vQ (λk=>bQ.Z24 N a b c d e f g h i j l m k) (Xe N a b c d e f g h i j l m _) (nk λa b c d e o f g h i j l m=>Xi N a b c d e o f g h i j l m K)
def Xk N a b c d e f g h i j l (K:KT J):=vQ (λk=>bQ.Z22 N a b c d e f g h i j l k) (Xd N a b c d e f g h i j l _) (oI λa b c d m e f g h i j l=>Xj N a b c d m e f g h i j l K)
def Xl N a b c d e f g h i j l (K:KT J):=vB 3 l5 K (bQ.Z20 N a b c d e f g h i j l (λa b c d e f g h i j l=>K .nrm (ki a b c d e f g h i j l))) (Xk N a b c d e f g h i j l _) (by kernel_rfl)
def Xm N a b c d e f g h i j l (K:KT J):iE N 29259 (ki a b c d e f g h i j l) l5 K =
 bQ.Z29 N a b c d e f g h i j l (λa b c d e f g h i j l=>K .nrm (ki a b c d e f g h i j l)):=by kernel_rfl
def Xn N a b c d e f g h i j l (K:KT J):=vQ (λk=>bQ.Z20 N a b c d e f g h i j l k) (Xl N a b c d e f g h i j l _) (gD λa b c d e f g h i j l=>Xm N a b c d e f g h i j l K)
def Xo N a b c l d e f g h i j (K:KT J):=vQ (λk=>bQ.Z18 N a b c l d e f g h i j k (λa b c d e f g h i j=>K (.exit 2) (iD a b c d e f g h i j))) (Xc N a b c l d e f g h i j _) (gD λa b c l d e f g h i j=>Xn N a b c l d e f g h i j K)
def Xp N (K:KT J):=q9 K (bQ.Z16L N (λa b c d e f g h i j=>K (.exit 2) (iD a b c d e f g h i j))) (λa b c l d e f g h i j k=>bQ.Z17 N a b c l d e f g h i j k (λa b c d e f g h i j=>K (.exit 2) (iD a b c d e f g h i j))) (λF a b c l d e f g h i j=>Xo N a b c l d e f g h i j _) (by kernel_rfl)
def Xq N a b c d e f g h i j l (K:KT J):=vL (ki a b c d e f g h i j l) (Xp N (jK l0 K) N a b c d e f g h i j l) (by kernel_rfl)
def Xr N a b c l d e f g h i j (K:KT J):=vB 2 l0 K (bQ.Z15 N a b c l d e f g h i j (λa b c d e f g h i j=>K .nrm (iD a b c d e f g h i j))) (Xq N a b c l d e f g h i j _) (by kernel_rfl)
def Xs N a b c d e f g h i j (K:KT J):=vQ (λk=>bQ.Z14 N a b c d e f g h i j k) (Xb N a b c d e f g h i j _) (gD λa b c l d e f g h i j=>Xr N a b c l d e f g h i j K)
def Xt N a b c d e f g h i j (K:KT J):=vB 1 l0 K (bQ.Z12 N a b c d e f g h i j (λa b c d e f g h i j=>K .nrm (iD a b c d e f g h i j))) (Xs N a b c d e f g h i j _) (by kernel_rfl)
def Xu N a b c d e f g h i j (K:KT J):iE N 459 (iD a b c d e f g h i j) l0 K =
 bQ.Z30 N a b c d e f g h i j (λa b c d e f g h i j=>K .nrm (iD a b c d e f g h i j)):=by kernel_rfl
def Xv N a b c d e f g h i j (K:KT J):=vQ (λk=>bQ.Z12 N a b c d e f g h i j k) (Xt N a b c d e f g h i j _) (dz λa b c d e f g h i j=>Xu N a b c d e f g h i j K)
def Xw N a f g h i j b c d e (K:KT J):=vQ (λk=>bQ.Z10 N a f g h i j b c d e k (λa b c d e=>K (.exit 0) (pC a b c d e))) (Xa N a f g h i j b c d e _) (dz λa f g h i j b c d e=>Xv N a f g h i j b c d e K)
def Xx N (K:KT J):=kH K (bQ.Z8L N (λa b c d e=>K (.exit 0) (pC a b c d e))) (λa f g h i j b c d e k=>bQ.Z9 N a f g h i j b c d e k (λa b c d e=>K (.exit 0) (pC a b c d e))) (λF a f g h i j b c d e=>Xw N a f g h i j b c d e _) (by kernel_rfl)
def Xy N a b c d e f g h i j (K:KT J):=vL (iD a b c d e f g h i j) (Xx N (jK Ao K) N a b c d e f g h i j) (by kernel_rfl)
def Xz N a f g h i j b c d e (K:KT J):=vB 0 Ao K (bQ.Z7 N a f g h i j b c d e (λa b c d e=>K .nrm (pC a b c d e))) (Xy N a f g h i j b c d e _) (by kernel_rfl)
def XA N a b c d e f g h i (K:KT J):=vQ (λk=>bQ.Z6 N a b c d e f g h i k) (W9 N a b c d e f g h i _) (dz λa b j c d e f g h i=>Xz N a b j c d e f g h i K)
def XB N c a b d e (K:KT J):iE N 15 (pC c a b d e) WV K =
 bQ.Z31 N c a b d e (λf a b=>K .ret (W4 f a b)):=by kernel_rfl
def XC N a f g h i b c d e (K:KT J):=vQ (λk=>bQ.Z5 N a f g h i b c d e k) (XA N a f g h i b c d e _) (cH λa b c d e=>XB N a b c d e K)
def XD N a b c d e f (K:KT J):=vQ (λk=>bQ.Z3 N a b c d e f k) (W8 N a b c d e f _) (ee λg a b c d e f h i=>XC N g a b c d e f h i K)
def XE N b a (K:KT J):=vQ (λk=>bQ.Z1 N b a k) (W7 N b a _) (cN λa c d e f g=>XD N a c d e f g K)
def XF(h:bQ.Spec):ay Tryz.prog 87 An :=
 bI Tryz.func87 bu WU (λN X K=>XE N X.1 X.2.1 K) (by kernel_rfl) λX hb hp=>by obtain⟨a,b,_⟩:=X;obtain⟨N,h⟩:=h a b hb.1 hp;exact⟨N,Eq.trans (by kernel_rfl) (h N (Nat.le_refl N))⟩
def XG:ay Tryz.prog 87 An:=XF bQ.ok
def G3:bc:=⟨[⟨.pair (.int .i64) (.pair (.int .i64) (.sl 3 (.int .i64))),true,false⟩,⟨.int .i64,false,false⟩],[⟨.pair (.int .i64) (.pair (.int .i64) (.sl 3 (.int .i64))),true,false⟩,⟨.bool,false,false⟩]⟩
def Ap:aQ:=⟨G3,none,λX=>((),((gd.g X.1 X.2.1).1,((gd.g X.1 X.2.1).2,())))⟩
def G4:Gm:=aK (aK (aK (aK be 25 Al) 65 uR) 87 An) 104 uQ
def XH:av Tryz.prog G4:=((((av.nil).add WA (by kernel_rfl)).add Gq (by kernel_rfl)).add XG (by kernel_rfl)).add Gh (by kernel_rfl)
def XI:ab:=⟨[],[],[],[],[]⟩
def XJ(a:MT)(b:Int):St:=bA G3.ps (a,(b,()))
def XK(a:LI)(b:Bool)(c d:Int):St:=ah [(4,xb 4),(5,xB b)] [(4,(27,[yi c,yi d,.own 20000258]))] [(20000258,(⟨3,.int .i64,a,true,false⟩:ae))]
def XL:ab:=⟨[4,5],[4],[⟨⟨true,4,2⟩,30000000,3,.int .i64,true⟩],[],[(⟨true,4,2⟩,20000258)]⟩
def XM:Nat->Option ab:=aA [(1000000,XL)]
abbrev XN{J:Type}(N n:Nat)(V:St)(l:ab)(K:KT J):Option J:=am G4 bg XM N (aZ 99 (bm Tryz.f71) n) .n V (az (some l) K)
def XO N a b (K:KT J):XN N 1 (XJ a b) XI K =
 gd.Z0 N a b (λc d e f=>K .ret (XK c d e f)):=by kernel_rfl
def XP(h:gd.Spec):ay Tryz.prog 71 Ap :=
 bI Tryz.func71 bu XH (λN X K=>XO N X.1 X.2.1 K) (by kernel_rfl) λX hb hp=>by obtain⟨a,b,_⟩:=X;obtain⟨N,h⟩:=h a b hb.1;exact⟨N,Eq.trans (by kernel_rfl) (h N (Nat.le_refl N))⟩
def XQ:ay Tryz.prog 71 Ap:=XP gd.ok
def G5:dD:=⟨98,[(5,.int .u8)],.pair (.int .i64) (.int .i64)⟩
def G6:List PT:=[⟨.int .i64,false,false⟩]
def XR:List PT:=[⟨.sl 3 (.int .i64),false,false⟩]
def Aq:eY:=⟨G5,G6,true,XR,(some λX=>cz.P X.1.1.1 X.1.2 X.2.1),λX=>((cz.g X.1.1.1 X.1.2 X.2.1).1,((),((cz.g X.1.1.1 X.1.2 X.2.1).2,())))⟩
def G7:Gm:=addV be 96 nG
def XS:av Tryz.prog G7:=(av.nil).addV rW (by kernel_rfl)
def XT:ab:=⟨[],[],[],[],[]⟩
def XU(u0:Value)(b0:List Int)(r0:Int×Int)(a:Int):St:=ed G5 G6 [u0] (((b0,()),r0),(a,()))
def G8(u0:Value)(a:Int)(b:List Int)(c d:Int):St:=ah [(0,xb 100000),(1,xi a),(100000,xb 100000)] [(100000,(98,[.bor u0 5 (.int .u8) b,yi c,yi d]))] []
def XV:ab:=⟨[0,1,100000],[100000],[],[],[]⟩
def G9(u0:Value)(a:LI)(b:Int)(c:List Int)(d e:Int):St:=ah [(0,xb 100000),(1,xi b),(5,xo 1000320),(100000,xb 100000)] [(100000,(98,[.bor u0 5 (.int .u8) c,yi d,yi e]))] [(1000320,(⟨3,.int .i64,a,true,false⟩:ae))]
def XW:ab:=⟨[0,1,5,100000],[100000],[],[],[(⟨false,5,0⟩,1000320)]⟩
def u7(u0:Value)(a:LI)(b c:Int)(d:List Int)(e f:Int):St:=ah [(0,xb 100000),(1,xi b),(5,xo 1000320),(6,xi c),(100000,xb 100000)] [(100000,(98,[.bor u0 5 (.int .u8) d,yi e,yi f]))] [(1000320,(⟨3,.int .i64,a,true,false⟩:ae))]
def Ha:ab:=⟨[0,1,5,6,100000],[100000],[],[],[(⟨false,5,0⟩,1000320)]⟩
def sc(u0:Value)(a:LI)(b:List Int)(c d:Int):St:=ah [(5,xo 1000320),(100000,xb 100000)] [(100000,(98,[.bor u0 5 (.int .u8) b,yi c,yi d]))] [(1000320,(⟨3,.int .i64,a,true,false⟩:ae))]
def Ar:ab:=⟨[5,100000],[100000],[],[],[(⟨false,5,0⟩,1000320)]⟩
def XX(u0:Value)(a:LI)(b:List Int)(c d:Int):St:=ah [(4,xo 1000256),(100000,xb 100000)] [(100000,(98,[.bor u0 5 (.int .u8) b,yi c,yi d]))] [(1000256,(⟨3,.int .i64,a,true,false⟩:ae))]
def XY:ab:=⟨[4,100000],[100000],[],[],[(⟨false,4,0⟩,1000256)]⟩
def XZ:Nat->Option ab:=aA [(0,Ar),(1000000,XY)]
abbrev sd{J:Type}(N n:Nat)(V:St)(l:ab)(K:KT J):Option J:=am G7 bg XZ N (aZ 99 (bm Tryz.f158) n) .n V (az (some l) K)
def X0 N u0 b0 r0 a (K:KT J):sd N 2 (XU u0 b0 r0 a) XV K =
 cz.Z1 N b0 r0 a (λa b c d=>K .nrm (G8 u0 a b c d)):=by kernel_rfl
def X1 N u0 a b c d (K:KT J):sd N 5 (G8 u0 a b c d) XW K =
 cz.Z3 N a b c d (λe a b c d=>K .nrm (G9 u0 e a b c d)):=by kernel_rfl
def X3 N u0 a b c d e (K:KT J):sd N 19 (G9 u0 a b c d e) Ha K =
 cz.Z6 N a b c d e (λa b f c d e=>K .nrm (u7 u0 a b f c d e)):=by kernel_rfl
def X4 N u0 a e f b c d (K:KT J):sd N 75 (u7 u0 a e f b c d) Ha K =
 cz.Z9 N a e f b c d (λa e f b c d=>K .nrm (u7 u0 a e f b c d)) (λa b c d=>K (.exit 0) (sc u0 a b c d)):=by kernel_rfl
def X5 N u0 (K:KT J):=lF K (cz.Z8L N (λa b c d=>K (.exit 0) (sc u0 a b c d))) (λa e f b c d k=>cz.Z9 N a e f b c d k (λa b c d=>K (.exit 0) (sc u0 a b c d))) (λF a e f b c d=>X4 N u0 a e f b c d _) (by kernel_rfl)
def X6 N u0 a b c d e f (K:KT J):=vL (u7 u0 a b c d e f) (X5 N u0 (jK Ar K) N a b c d e f) (by kernel_rfl)
def X7 N u0 a e f b c d (K:KT J):=vB 0 Ar K (cz.Z7 N a e f b c d (λa b c d=>K .nrm (sc u0 a b c d))) (X6 N u0 a e f b c d _) (by kernel_rfl)
def X8 N u0 a b c d e (K:KT J):=vQ (λk=>cz.Z6 N a b c d e k) (X3 N u0 a b c d e _) (cN λa b f c d e=>X7 N u0 a b f c d e K)
def X9 N u0 d a b c (K:KT J):sd N 15 (sc u0 d a b c) XT K =
 cz.Z10 N d a b c (λe a b c=>K .ret (XX u0 e a b c)):=by kernel_rfl
def Ya N u0 a e b c d (K:KT J):=vQ (λk=>cz.Z5 N a e b c d k) (X8 N u0 a e b c d _) (eO λa b c d=>X9 N u0 a b c d K)
def Yb N u0 a b c d (K:KT J):=vQ (λk=>cz.Z3 N a b c d k) (X1 N u0 a b c d _) (cH λe a b c d=>Ya N u0 e a b c d K)
def Yc N u0 b0 r0 a (K:KT J):=vQ (λk=>cz.Z1 N b0 r0 a k) (X0 N u0 b0 r0 a _) (eO λa b c d=>Yb N u0 a b c d K)
def Yd(h:cz.Spec):dU Tryz.prog 158 Aq :=
 kI Tryz.func158 bu XS (λN u X K=>Yc N u X.1.1.1 X.1.2 X.2.1 K) (by kernel_rfl) λu0 X hb1 hb2 hp=>by obtain⟨⟨⟨b0,_⟩,r0⟩,a,_⟩:=X;obtain⟨N,h⟩:=h [u0] b0 r0 a hb1.1 hp;exact⟨N,Eq.trans (by kernel_rfl) (h N (Nat.le_refl N))⟩
def Ye:dU Tryz.prog 158 Aq:=Yd cz.ok
def Hb:bc:=⟨[⟨.pair (.int .i64) (.pair (.int .i64) (.sl 3 (.int .i64))),true,false⟩,⟨.sl 3 (.int .i64),false,false⟩],[⟨.pair (.int .i64) (.pair (.int .i64) (.sl 3 (.int .i64))),true,false⟩]⟩
def As:aQ:=⟨Hb,(some λX=>ce.P X.1 X.2.1),λX=>((),((ce.g X.1 X.2.1),()))⟩
def Hc:Gm:=aK (aK be 70 u6) 105 nK
def Yf:av Tryz.prog Hc:=((av.nil).add GU (by kernel_rfl)).add r6 (by kernel_rfl)
def Yg:ab:=⟨[],[],[],[],[]⟩
def Yh(a:MT)(b:LI):St:=bA Hb.ps (a,(b,()))
def He(a:LI)(b d:Int)(e:LI)(f g:Int):St:=ah [(1,.c (.sn 3 tI a none)),(2,xb 2),(4,xb 4)] [(2,(27,[yi b,yi d,.sn 3 tI e none])),(4,(27,[yi f,yi g,.nil]))] []
def Yi:ab:=⟨[1,2,4],[2,4],[],[],[]⟩
def Hf(a b:LI)(d e:Int)(f:LI)(g h i j:Int):St:=ah [(1,.c (.sn 3 tI b none)),(2,xb 2),(4,xb 4),(5,xb 5)] [(2,(27,[yi d,yi e,.sn 3 tI f none])),(4,(27,[yi g,yi h,.nil])),(5,(27,[yi i,yi j,.own 20000322]))] [(20000322,(⟨3,.int .i64,a,true,false⟩:ae))]
def Yj:ab:=⟨[1,2,4,5],[2,4,5],[],[],[(⟨true,5,2⟩,20000322)]⟩
def jk(a b:LI)(d e f:Int)(g:LI)(h i j l:Int):St:=ah [(1,.c (.sn 3 tI b none)),(2,xb 2),(4,xb 4),(5,xb 5),(6,xi d)] [(2,(27,[yi e,yi f,.sn 3 tI g none])),(4,(27,[yi h,yi i,.nil])),(5,(27,[yi j,yi l,.own 20000322]))] [(20000322,(⟨3,.int .i64,a,true,false⟩:ae))]
def l6:ab:=⟨[1,2,4,5,6],[2,4,5],[],[],[(⟨true,5,2⟩,20000322)]⟩
def u9(a b:LI)(d e f g:Int)(h:LI)(i j l m:Int):St:=ah [(1,.c (.sn 3 tI b none)),(2,xb 2),(4,xb 4),(5,xb 5),(6,xi d),(7,xi e)] [(2,(27,[yi f,yi g,.sn 3 tI h none])),(4,(27,[yi i,yi j,.nil])),(5,(27,[yi l,yi m,.own 20000322]))] [(20000322,(⟨3,.int .i64,a,true,false⟩:ae))]
def Hg:ab:=⟨[1,2,4,5,6,7],[2,4,5],[],[],[(⟨true,5,2⟩,20000322)]⟩
def va(a b:LI)(d e f g h:Int)(i:LI)(j l m o:Int):St:=ah [(1,.c (.sn 3 tI b none)),(2,xb 2),(4,xb 4),(5,xb 5),(6,xi d),(7,xi e),(8,xi f)] [(2,(27,[yi g,yi h,.sn 3 tI i none])),(4,(27,[yi j,yi l,.nil])),(5,(27,[yi m,yi o,.own 20000322]))] [(20000322,(⟨3,.int .i64,a,true,false⟩:ae))]
def Hh:ab:=⟨[1,2,4,5,6,7,8],[2,4,5],[],[],[(⟨true,5,2⟩,20000322)]⟩
def pD(a:LI)(b c d e:Int):St:=ah [(4,xb 4),(5,xb 5)] [(4,(27,[yi b,yi c,.nil])),(5,(27,[yi d,yi e,.own 20000322]))] [(20000322,(⟨3,.int .i64,a,true,false⟩:ae))]
def Au:ab:=⟨[4,5],[4,5],[],[],[(⟨true,5,2⟩,20000322)]⟩
def Yk(a:LI)(b c:Int):St:=ah [(4,xb 4)] [(4,(27,[yi b,yi c,.own 20000258]))] [(20000258,(⟨3,.int .i64,a,true,false⟩:ae))]
def Yl:ab:=⟨[4],[4],[],[],[(⟨true,4,2⟩,20000258)]⟩
def Ym:Nat->Option ab:=aA [(2,l6),(1,l6),(0,Au),(1000000,Yl)]
abbrev kj{J:Type}(N n:Nat)(V:St)(l:ab)(K:KT J):Option J:=am Hc bg Ym N (aZ 99 (bm Tryz.f120) n) .n V (az (some l) K)
def Yn N b a (K:KT J):kj N 2 (Yh b a) Yi K =
 ce.Z1 N b a (λa c d e f g=>K .nrm (He a c d e f g)):=by kernel_rfl
def Yo N a b c d e f (K:KT J):kj N 5 (He a b c d e f) Yj K =
 ce.Z3 N a b c d e f (λg a b c d e f h i=>K .nrm (Hf g a b c d e f h i)):=by kernel_rfl
def Yp N a b c d e f g h i (K:KT J):kj N 19 (Hf a b c d e f g h i) l6 K =
 ce.Z6 N a b c d e f g h i (λa b j c d e f g h i=>K .nrm (jk a b j c d e f g h i)):=by kernel_rfl
def Yq N a f g h i j b c d e (K:KT J):kj N 139 (jk a f g h i j b c d e) l6 K =
 ce.Z10 N a f g h i j b c d e (λa f g h i j b c d e=>K .nrm (jk a f g h i j b c d e)) (λa b c d e=>K (.exit 0) (pD a b c d e)):=by kernel_rfl
def Yr N a b c d e f g h i j (K:KT J):kj N 1099 (jk a b c d e f g h i j) Hg K =
 ce.Z14 N a b c d e f g h i j (λa b c l d e f g h i j=>K .nrm (u9 a b c l d e f g h i j)):=by kernel_rfl
def Ys N a b c d e f g h i j l (K:KT J):kj N 2635 (u9 a b c d e f g h i j l) Hg K =
 ce.Z16 N a b c d e f g h i j l (λa b c d e f g h i j l=>K .nrm (u9 a b c d e f g h i j l)):=by kernel_rfl
def Yt N a b c d e f g h i j l (K:KT J):kj N 5707 (u9 a b c d e f g h i j l) Hh K =
 ce.Z18 N a b c d e f g h i j l (λa b c d m e f g h i j l=>K .nrm (va a b c d m e f g h i j l)):=by kernel_rfl
def Yu N a b c l m d e f g h i j (K:KT J):kj N 20043 (va a b c l m d e f g h i j) Hh K =
 ce.Z21 N a b c l m d e f g h i j (λa b c l m d e f g h i j=>K .nrm (va a b c l m d e f g h i j)) (λa b c d e f g h i j=>K (.exit 2) (jk a b c d e f g h i j)):=by kernel_rfl
def Yv N (K:KT J):=ra K (ce.Z20L N (λa b c d e f g h i j=>K (.exit 2) (jk a b c d e f g h i j))) (λa b c l m d e f g h i j k=>ce.Z21 N a b c l m d e f g h i j k (λa b c d e f g h i j=>K (.exit 2) (jk a b c d e f g h i j))) (λF a b c l m d e f g h i j=>Yu N a b c l m d e f g h i j _) (by kernel_rfl)
def Yw N a b c d e f g h i j l m (K:KT J):=vL (va a b c d e f g h i j l m) (Yv N (jK l6 K) N a b c d e f g h i j l m) (by kernel_rfl)
def Yx N a b c l m d e f g h i j (K:KT J):=vB 2 l6 K (ce.Z19 N a b c l m d e f g h i j (λa b c d e f g h i j=>K .nrm (jk a b c d e f g h i j))) (Yw N a b c l m d e f g h i j _) (by kernel_rfl)
def Yy N a b c d e f g h i j l (K:KT J):=vQ (λk=>ce.Z18 N a b c d e f g h i j l k) (Yt N a b c d e f g h i j l _) (oI λa b c d m e f g h i j l=>Yx N a b c d m e f g h i j l K)
def Yz N a b c d e f g h i j l (K:KT J):=vQ (λk=>ce.Z16 N a b c d e f g h i j l k) (Ys N a b c d e f g h i j l _) (gD λa b c d e f g h i j l=>Yy N a b c d e f g h i j l K)
def YA N a b c d e f g h i j (K:KT J):=vQ (λk=>ce.Z14 N a b c d e f g h i j k) (Yr N a b c d e f g h i j _) (gD λa b c l d e f g h i j=>Yz N a b c l d e f g h i j K)
def YB N a b c d e f g h i j (K:KT J):=vB 1 l6 K (ce.Z12 N a b c d e f g h i j (λa b c d e f g h i j=>K .nrm (jk a b c d e f g h i j))) (YA N a b c d e f g h i j _) (by kernel_rfl)
def YC N a b c d e f g h i j (K:KT J):kj N 459 (jk a b c d e f g h i j) l6 K =
 ce.Z22 N a b c d e f g h i j (λa b c d e f g h i j=>K .nrm (jk a b c d e f g h i j)):=by kernel_rfl
def YD N a b c d e f g h i j (K:KT J):=vQ (λk=>ce.Z12 N a b c d e f g h i j k) (YB N a b c d e f g h i j _) (dz λa b c d e f g h i j=>YC N a b c d e f g h i j K)
def YE N a f g h i j b c d e (K:KT J):=vQ (λk=>ce.Z10 N a f g h i j b c d e k (λa b c d e=>K (.exit 0) (pD a b c d e))) (Yq N a f g h i j b c d e _) (dz λa f g h i j b c d e=>YD N a f g h i j b c d e K)
def YF N (K:KT J):=kH K (ce.Z8L N (λa b c d e=>K (.exit 0) (pD a b c d e))) (λa f g h i j b c d e k=>ce.Z9 N a f g h i j b c d e k (λa b c d e=>K (.exit 0) (pD a b c d e))) (λF a f g h i j b c d e=>YE N a f g h i j b c d e _) (by kernel_rfl)
def YG N a b c d e f g h i j (K:KT J):=vL (jk a b c d e f g h i j) (YF N (jK Au K) N a b c d e f g h i j) (by kernel_rfl)
def YH N a f g h i j b c d e (K:KT J):=vB 0 Au K (ce.Z7 N a f g h i j b c d e (λa b c d e=>K .nrm (pD a b c d e))) (YG N a f g h i j b c d e _) (by kernel_rfl)
def YI N a b c d e f g h i (K:KT J):=vQ (λk=>ce.Z6 N a b c d e f g h i k) (Yp N a b c d e f g h i _) (dz λa b j c d e f g h i=>YH N a b j c d e f g h i K)
def YJ N c a b d e (K:KT J):kj N 15 (pD c a b d e) Yg K =
 ce.Z23 N c a b d e (λf a b=>K .ret (Yk f a b)):=by kernel_rfl
def YK N a f g h i b c d e (K:KT J):=vQ (λk=>ce.Z5 N a f g h i b c d e k) (YI N a f g h i b c d e _) (cH λa b c d e=>YJ N a b c d e K)
def YL N a b c d e f (K:KT J):=vQ (λk=>ce.Z3 N a b c d e f k) (Yo N a b c d e f _) (ee λg a b c d e f h i=>YK N g a b c d e f h i K)
def YM N b a (K:KT J):=vQ (λk=>ce.Z1 N b a k) (Yn N b a _) (cN λa c d e f g=>YL N a c d e f g K)
def YN(h:ce.Spec):ay Tryz.prog 120 As :=
 bI Tryz.func120 bu Yf (λN X K=>YM N X.1 X.2.1 K) (by kernel_rfl) λX hb hp=>by obtain⟨a,b,_⟩:=X;obtain⟨N,h⟩:=h a b hb.1 hb.2.1 hp;exact⟨N,Eq.trans (by kernel_rfl) (h N (Nat.le_refl N))⟩
def YO:ay Tryz.prog 120 As:=YN ce.ok
def Hi:dD:=⟨98,[(5,.int .u8)],.pair (.int .i64) (.int .i64)⟩
def Hj:List PT:=[⟨.pair (.int .i64) (.pair (.int .i64) (.sl 3 (.int .i64))),true,false⟩]
def YP:List PT:=[⟨.pair (.int .i64) (.pair (.int .i64) (.sl 3 (.int .i64))),true,false⟩]
def Av:eY:=⟨Hi,Hj,true,YP,(some λX=>bU.P X.1.1.1 X.1.2 X.2.1),λX=>((bU.g X.1.1.1 X.1.2 X.2.1).1,((),((bU.g X.1.1.1 X.1.2 X.2.1).2,())))⟩
def Hl:Gm:=addV (aK (addV (aK be 71 Ap) 96 nG) 120 As) 158 Aq
def YQ:av Tryz.prog Hl:=((((av.nil).add XQ (by kernel_rfl)).addV rW (by kernel_rfl)).add YO (by kernel_rfl)).addV Ye (by kernel_rfl)
def YR:ab:=⟨[],[],[],[],[]⟩
def YS(u0:Value)(b0:List Int)(r0:Int×Int)(a:MT):St:=ed Hi Hj [u0] (((b0,()),r0),(a,()))
def nL(u0:Value)(a:List Int)(b c d e:Int)(f:LI)(g h:Int):St:=ah [(0,xb 100000),(3,xb 3),(4,xb 4),(100000,xb 100000)] [(100000,(98,[.bor u0 5 (.int .u8) a,yi b,yi c])),(3,(27,[yi d,yi e,.sn 3 tI f none])),(4,(27,[yi g,yi h,.nil]))] []
def vb:ab:=⟨[0,3,4,100000],[100000,3,4],[],[],[]⟩
def Hm(u0:Value)(a:Int)(b:List Int)(c d e f:Int)(g:LI)(h i:Int):St:=ah [(0,xb 100000),(3,xb 3),(4,xb 4),(5,xi a),(100000,xb 100000)] [(100000,(98,[.bor u0 5 (.int .u8) b,yi c,yi d])),(3,(27,[yi e,yi f,.sn 3 tI g none])),(4,(27,[yi h,yi i,.nil]))] []
def YT:ab:=⟨[0,3,4,5,100000],[100000,3,4],[],[],[]⟩
def Hn(u0:Value)(a b:Int)(c:List Int)(d e f g:Int)(h:LI)(i j:Int):St:=ah [(0,xb 100000),(3,xb 3),(4,xb 4),(5,xi a),(6,xi b),(100000,xb 100000)] [(100000,(98,[.bor u0 5 (.int .u8) c,yi d,yi e])),(3,(27,[yi f,yi g,.sn 3 tI h none])),(4,(27,[yi i,yi j,.nil]))] []
def YU:ab:=⟨[0,3,4,5,6,100000],[100000,3,4],[],[],[]⟩
def Ho(u0:Value)(a b:Int)(c:List Int)(d e f g:Int)(h:LI)(i j:Int):St:=ah [(0,xb 100000),(3,xb 3),(4,xb 4),(5,xi a),(6,xi b),(100000,xb 100000)] [(100000,(98,[.bor u0 5 (.int .u8) c,yi d,yi e])),(3,(27,[yi f,yi g,.sn 3 tI h none])),(4,(27,[yi i,yi j,.nil]))] []
def YV:ab:=⟨[0,3,4,5,6,100000],[100000,3,4],[],[(⟨true,3,2⟩,3,.int .i64)],[]⟩
def YW(u0:Value)(a:LI)(b c:Int)(d:List Int)(e f:Int):St:=ah [(4,xb 4),(100000,xb 100000)] [(4,(27,[yi b,yi c,.own 20000258])),(100000,(98,[.bor u0 5 (.int .u8) d,yi e,yi f]))] [(20000258,(⟨3,.int .i64,a,true,false⟩:ae))]
def YX:ab:=⟨[4,100000],[4,100000],[],[],[(⟨true,4,2⟩,20000258)]⟩
def YY:Nat->Option ab:=aA [(0,vb),(1000000,YX)]
abbrev se{J:Type}(N n:Nat)(V:St)(l:ab)(K:KT J):Option J:=am Hl bg YY N (aZ 99 (bm Tryz.f118) n) .n V (az (some l) K)
def YZ N u0 b0 r0 a (K:KT J):se N 2 (YS u0 b0 r0 a) vb K =
 bU.Z1 N b0 r0 a (λb c d e f g h i=>K .nrm (nL u0 b c d e f g h i)):=by kernel_rfl
def Y0 N u0 a b c d e f g h (K:KT J):se N 5 (nL u0 a b c d e f g h) YT K =
 bU.Z3 N a b c d e f g h (λi a b c d e f g h=>K .nrm (Hm u0 i a b c d e f g h)):=by kernel_rfl
def Y1 N u0 a b c d e f g h i (K:KT J):se N 19 (Hm u0 a b c d e f g h i) YU K =
 bU.Z6 N a b c d e f g h i (λa j b c d e f g h i=>K .nrm (Hn u0 a j b c d e f g h i)):=by kernel_rfl
def Y2 N u0 i j a b c d e f g h (K:KT J):se N 75 (Ho u0 i j a b c d e f g h) YV K =
 bU.Z9 N i j a b c d e f g h (λi j a b c d e f g h=>K .nrm (Ho u0 i j a b c d e f g h)) (λa b c d e f g h=>K (.exit 0) (nL u0 a b c d e f g h)):=by kernel_rfl
def Y3 N u0 (K:KT J):=kH K (bU.Z8L N (λa b c d e f g h=>K (.exit 0) (nL u0 a b c d e f g h))) (λi j a b c d e f g h k=>bU.Z9 N i j a b c d e f g h k (λa b c d e f g h=>K (.exit 0) (nL u0 a b c d e f g h))) (λF i j a b c d e f g h=>Y2 N u0 i j a b c d e f g h _) (by kernel_rfl)
def Y4 N u0 a b c d e f g h i j (K:KT J):=vL (Hn u0 a b c d e f g h i j) (Y3 N u0 (jK vb K) N a b c d e f g h i j) (by kernel_rfl)
def Y5 N u0 i j a b c d e f g h (K:KT J):=vB 0 vb K (bU.Z7 N i j a b c d e f g h (λa b c d e f g h=>K .nrm (nL u0 a b c d e f g h))) (Y4 N u0 i j a b c d e f g h _) (by kernel_rfl)
def Y6 N u0 a b c d e f g h i (K:KT J):=vQ (λk=>bU.Z6 N a b c d e f g h i k) (Y1 N u0 a b c d e f g h i _) (dz λa j b c d e f g h i=>Y5 N u0 a j b c d e f g h i K)
def Y7 N u0 a b c f g h d e (K:KT J):se N 15 (nL u0 a b c f g h d e) YR K =
 bU.Z10 N a b c f g h d e (λi d e a b c=>K .ret (YW u0 i d e a b c)):=by kernel_rfl
def Y8 N u0 i a b c d e f g h (K:KT J):=vQ (λk=>bU.Z5 N i a b c d e f g h k) (Y6 N u0 i a b c d e f g h _) (dy λa b c d e f g h=>Y7 N u0 a b c d e f g h K)
def Y9 N u0 a b c d e f g h (K:KT J):=vQ (λk=>bU.Z3 N a b c d e f g h k) (Y0 N u0 a b c d e f g h _) (ee λi a b c d e f g h=>Y8 N u0 i a b c d e f g h K)
def Za N u0 b0 r0 a (K:KT J):=vQ (λk=>bU.Z1 N b0 r0 a k) (YZ N u0 b0 r0 a _) (dy λb c d e f g h i=>Y9 N u0 b c d e f g h i K)
def Zb(h:bU.Spec):dU Tryz.prog 118 Av :=
 kI Tryz.func118 bu YQ (λN u X K=>Za N u X.1.1.1 X.1.2 X.2.1 K) (by kernel_rfl) λu0 X hb1 hb2 hp=>by obtain⟨⟨⟨b0,_⟩,r0⟩,a,_⟩:=X;obtain⟨N,h⟩:=h [u0] b0 r0 a hb1.1 hb2.1 hp;exact⟨N,Eq.trans (by kernel_rfl) (h N (Nat.le_refl N))⟩
def Zc:dU Tryz.prog 118 Av:=Zb bU.ok
def Hp:dD:=⟨98,[(5,.int .u8)],.pair (.int .i64) (.int .i64)⟩
def Hq:List PT:=[⟨.int .i64,false,false⟩]
def Zd:List PT:=[⟨.pair (.int .i64) (.pair (.int .i64) (.sl 3 (.int .i64))),true,false⟩,⟨.str,false,false⟩]
def Aw:eY:=⟨Hp,Hq,true,Zd,(some λX=>cD.P X.1.1.1 X.1.2 X.2.1),λX=>((cD.g X.1.1.1 X.1.2 X.2.1).1,((),((cD.g X.1.1.1 X.1.2 X.2.1).2.1,((cD.g X.1.1.1 X.1.2 X.2.1).2.2,()))))⟩
def Hr:Gm:=addV (addV be 117 zT) 118 Av
def Ze:av Tryz.prog Hr:=((av.nil).addV S4 (by kernel_rfl)).addV Zc (by kernel_rfl)
def Zf:ab:=⟨[],[],[],[],[]⟩
def Zg(u0:Value)(b0:List Int)(r0:Int×Int)(a:Int):St:=ed Hp Hq [u0] (((b0,()),r0),(a,()))
def Zh(u0:Value)(a:LI)(b:ByteArray)(d e:Int)(f:List Int)(g h:Int):St:=ah [(4,xb 4),(5,.c (.str b)),(100000,xb 100000)] [(4,(27,[yi d,yi e,.own 20000258])),(100000,(98,[.bor u0 5 (.int .u8) f,yi g,yi h]))] [(20000258,(⟨3,.int .i64,a,true,false⟩:ae))]
def Zi:ab:=⟨[4,5,100000],[4,100000],[],[],[(⟨true,4,2⟩,20000258)]⟩
def Zj:Nat->Option ab:=aA [(1000000,Zi)]
abbrev Zk{J:Type}(N n:Nat)(V:St)(l:ab)(K:KT J):Option J:=am Hr bg Zj N (aZ 99 (bm Tryz.f82) n) .n V (az (some l) K)
def Zl N u0 b0 r0 a (K:KT J):Zk N 1 (Zg u0 b0 r0 a) Zf K =
 cD.Z0 N b0 r0 a (λb c d e f g h=>K .ret (Zh u0 b c d e f g h)):=by kernel_rfl
def Zm(h:cD.Spec):dU Tryz.prog 82 Aw :=
 kI Tryz.func82 bu Ze (λN u X K=>Zl N u X.1.1.1 X.1.2 X.2.1 K) (by kernel_rfl) λu0 X hb1 hb2 hp=>by obtain⟨⟨⟨b0,_⟩,r0⟩,a,_⟩:=X;obtain⟨N,h⟩:=h [u0] b0 r0 a hb1.1 hp;exact⟨N,Eq.trans (by kernel_rfl) (h N (Nat.le_refl N))⟩
def Zn:dU Tryz.prog 82 Aw:=Zm cD.ok
def Hs:dD:=⟨98,[(5,.int .u8)],.pair (.int .i64) (.int .i64)⟩
def Ht:List PT:=[⟨.int .i64,false,false⟩,⟨.int .i64,false,false⟩]
def Zo:List PT:=[⟨.sl 3 (.int .i64),false,false⟩]
def Ax:eY:=⟨Hs,Ht,true,Zo,(some λX=>db.P X.1.1.1 X.1.2 X.2.1 X.2.2.1),λX=>((db.g X.1.1.1 X.1.2 X.2.1 X.2.2.1).1,((),((db.g X.1.1.1 X.1.2 X.2.1 X.2.2.1).2,())))⟩
def Hu:Gm:=addV be 96 nG
def Zp:av Tryz.prog Hu:=(av.nil).addV rW (by kernel_rfl)
def Zq:ab:=⟨[],[],[],[],[]⟩
def Zr(u0:Value)(b0:List Int)(r0:Int×Int)(a b:Int):St:=ed Hs Ht [u0] (((b0,()),r0),(a,(b,())))
def Hv(u0:Value)(a b:Int)(c:List Int)(d e:Int):St:=ah [(0,xb 100000),(1,xi a),(2,xi b),(100000,xb 100000)] [(100000,(98,[.bor u0 5 (.int .u8) c,yi d,yi e]))] []
def Zs:ab:=⟨[0,1,2,100000],[100000],[],[],[]⟩
def Hw(u0:Value)(a:LI)(b c:Int)(d:List Int)(e f:Int):St:=ah [(0,xb 100000),(1,xi b),(2,xi c),(7,xo 1000448),(100000,xb 100000)] [(100000,(98,[.bor u0 5 (.int .u8) d,yi e,yi f]))] [(1000448,(⟨3,.int .i64,a,true,false⟩:ae))]
def Zt:ab:=⟨[0,1,2,7,100000],[100000],[],[],[(⟨false,7,0⟩,1000448)]⟩
def Hx(u0:Value)(a:LI)(b c:Int)(d:List Int)(e f:Int):St:=ah [(0,xb 100000),(1,xi b),(7,xo 1000448),(8,xi c),(100000,xb 100000)] [(100000,(98,[.bor u0 5 (.int .u8) d,yi e,yi f]))] [(1000448,(⟨3,.int .i64,a,true,false⟩:ae))]
def Zu:ab:=⟨[0,1,7,8,100000],[100000],[],[],[(⟨false,7,0⟩,1000448)]⟩
def vc(u0:Value)(a:LI)(b c d:Int)(e:List Int)(f g:Int):St:=ah [(0,xb 100000),(1,xi b),(7,xo 1000448),(8,xi c),(9,xi d),(100000,xb 100000)] [(100000,(98,[.bor u0 5 (.int .u8) e,yi f,yi g]))] [(1000448,(⟨3,.int .i64,a,true,false⟩:ae))]
def Hy:ab:=⟨[0,1,7,8,9,100000],[100000],[],[],[(⟨false,7,0⟩,1000448)]⟩
def sf(u0:Value)(a:LI)(b:List Int)(c d:Int):St:=ah [(7,xo 1000448),(100000,xb 100000)] [(100000,(98,[.bor u0 5 (.int .u8) b,yi c,yi d]))] [(1000448,(⟨3,.int .i64,a,true,false⟩:ae))]
def Ay:ab:=⟨[7,100000],[100000],[],[],[(⟨false,7,0⟩,1000448)]⟩
def Zv(u0:Value)(a:LI)(b:List Int)(c d:Int):St:=ah [(6,xo 1000384),(100000,xb 100000)] [(100000,(98,[.bor u0 5 (.int .u8) b,yi c,yi d]))] [(1000384,(⟨3,.int .i64,a,true,false⟩:ae))]
def Zw:ab:=⟨[6,100000],[100000],[],[],[(⟨false,6,0⟩,1000384)]⟩
def Zx:Nat->Option ab:=aA [(0,Ay),(1000000,Zw)]
abbrev pE{J:Type}(N n:Nat)(V:St)(l:ab)(K:KT J):Option J:=am Hu bg Zx N (aZ 99 (bm Tryz.f68) n) .n V (az (some l) K)
def Zy N u0 b0 r0 a b (K:KT J):pE N 2 (Zr u0 b0 r0 a b) Zs K =
 db.Z1 N b0 r0 a b (λa b c d e=>K .nrm (Hv u0 a b c d e)):=by kernel_rfl
def Zz N u0 a b c d e (K:KT J):pE N 5 (Hv u0 a b c d e) Zt K =
 db.Z3 N a b c d e (λf a b c d e=>K .nrm (Hw u0 f a b c d e)):=by kernel_rfl
def ZA N u0 a b f c d e (K:KT J):pE N 11 (Hw u0 a b f c d e) Zu K =
 db.Z5 N a b f c d e (λa b g c d e=>K .nrm (Hx u0 a b g c d e)):=by kernel_rfl
def ZB N u0 a b c d e f (K:KT J):pE N 39 (Hx u0 a b c d e f) Hy K =
 db.Z8 N a b c d e f (λa b c g d e f=>K .nrm (vc u0 a b c g d e f)):=by kernel_rfl
def ZC N u0 a e f g b c d (K:KT J):pE N 151 (vc u0 a e f g b c d) Hy K =
 db.Z11 N a e f g b c d (λa e f g b c d=>K .nrm (vc u0 a e f g b c d)) (λa b c d=>K (.exit 0) (sf u0 a b c d)):=by kernel_rfl
def ZD N u0 (K:KT J):=nn K (db.Z10L N (λa b c d=>K (.exit 0) (sf u0 a b c d))) (λa e f g b c d k=>db.Z11 N a e f g b c d k (λa b c d=>K (.exit 0) (sf u0 a b c d))) (λF a e f g b c d=>ZC N u0 a e f g b c d _) (by kernel_rfl)
def ZE N u0 a b c d e f g (K:KT J):=vL (vc u0 a b c d e f g) (ZD N u0 (jK Ay K) N a b c d e f g) (by kernel_rfl)
def ZF N u0 a e f g b c d (K:KT J):=vB 0 Ay K (db.Z9 N a e f g b c d (λa b c d=>K .nrm (sf u0 a b c d))) (ZE N u0 a e f g b c d _) (by kernel_rfl)
def ZG N u0 a b c d e f (K:KT J):=vQ (λk=>db.Z8 N a b c d e f k) (ZB N u0 a b c d e f _) (fa λa b c g d e f=>ZF N u0 a b c g d e f K)
def ZH N u0 d a b c (K:KT J):pE N 31 (sf u0 d a b c) Zq K =
 db.Z12 N d a b c (λe a b c=>K .ret (Zv u0 e a b c)):=by kernel_rfl
def ZI N u0 a e f b c d (K:KT J):=vQ (λk=>db.Z7 N a e f b c d k) (ZG N u0 a e f b c d _) (eO λa b c d=>ZH N u0 a b c d K)
def ZJ N u0 a b f c d e (K:KT J):=vQ (λk=>db.Z5 N a b f c d e k) (ZA N u0 a b f c d e _) (cN λa b g c d e=>ZI N u0 a b g c d e K)
def ZK N u0 a b c d e (K:KT J):=vQ (λk=>db.Z3 N a b c d e k) (Zz N u0 a b c d e _) (cN λf a b c d e=>ZJ N u0 f a b c d e K)
def ZL N u0 b0 r0 a b (K:KT J):=vQ (λk=>db.Z1 N b0 r0 a b k) (Zy N u0 b0 r0 a b _) (cH λa b c d e=>ZK N u0 a b c d e K)
def ZM(h:db.Spec):dU Tryz.prog 68 Ax :=
 kI Tryz.func68 bu Zp (λN u X K=>ZL N u X.1.1.1 X.1.2 X.2.1 X.2.2.1 K) (by kernel_rfl) λu0 X hb1 hb2 hp=>by obtain⟨⟨⟨b0,_⟩,r0⟩,a,b,_⟩:=X;obtain⟨N,h⟩:=h [u0] b0 r0 a b hb1.1 hp;exact⟨N,Eq.trans (by kernel_rfl) (h N (Nat.le_refl N))⟩
def ZN:dU Tryz.prog 68 Ax:=ZM db.ok
def Hz:bc:=⟨[⟨.sl 5 (.int .u8),false,false⟩],[⟨.pair (.int .i64) (.pair (.int .i64) (.sl 3 (.int .i64))),true,false⟩,⟨.str,false,false⟩,⟨.sl 3 (.int .i64),false,false⟩]⟩
def Az:aQ:=⟨Hz,none,λX=>((),((fP.g X.1).1,((fP.g X.1).2.1,((fP.g X.1).2.2,()))))⟩
def HA:Gm:=addV (addV (addN be 54 zL) 68 Ax) 82 Aw
def ZO:av Tryz.prog HA:=(((av.nil).addN Qk).addV ZN (by kernel_rfl)).addV Zn (by kernel_rfl)
def ZP:ab:=⟨[],[],[],[],[]⟩
def ZQ(a:List Int):St:=bA Hz.ps (a,())
def ZR(a b:LI)(d:ByteArray)(e f:Int):St:=ah [(2,xb 2),(3,.c (.str d)),(4,xo 1000256)] [(2,(27,[yi e,yi f,.own 20000130]))] [(1000256,(⟨3,.int .i64,a,true,false⟩:ae)),(20000130,(⟨3,.int .i64,b,true,false⟩:ae))]
def ZS:ab:=⟨[2,3,4],[2],[],[],[(⟨false,4,0⟩,1000256),(⟨true,2,2⟩,20000130)]⟩
def ZT:Nat->Option ab:=aA [(1000000,ZS)]
abbrev ZU{J:Type}(N n:Nat)(V:St)(l:ab)(K:KT J):Option J:=am HA bg ZT N (aZ 99 (bm Tryz.f36) n) .n V (az (some l) K)
def ZV N a (K:KT J):ZU N 1 (ZQ a) ZP K =
 fP.Z0 N a (λb c d e f=>K .ret (ZR b c d e f)):=by kernel_rfl
def ZW(h:fP.Spec):ay Tryz.prog 36 Az :=
 bI Tryz.func36 bu ZO (λN X K=>ZV N X.1 K) (by kernel_rfl) λX hb hp=>by obtain⟨a,_⟩:=X;obtain⟨N,h⟩:=h a hb.1;exact⟨N,Eq.trans (by kernel_rfl) (h N (Nat.le_refl N))⟩
def ZX:ay Tryz.prog 36 Az:=ZW fP.ok
def HB:bc:=⟨[⟨.int .i64,false,false⟩,⟨.int .i64,false,false⟩,⟨.int .i64,false,false⟩],[⟨.bool,false,false⟩]⟩
def pF:aQ:=⟨HB,none,λX=>((),((gy.g X.1 X.2.1 X.2.2.1),()))⟩
def HC:Gm:=be
def ZY:av Tryz.prog HC:=av.nil
def ZZ:ab:=⟨[],[],[],[],[]⟩
def f91s0(a b c:Int):St:=bA HB.ps (a,(b,(c,())))
def f91s1(a:Bool):St:=ah [(6,xB a)] [] []
def f91l1:ab:=⟨[6],[],[],[],[]⟩
def f91B:Nat->Option ab:=aA [(1000000,f91l1)]
abbrev f91j{J:Type}(N n:Nat)(V:St)(l:ab)(K:KT J):Option J:=am HC bg f91B N (aZ 99 (bm Tryz.f91) n) .n V (az (some l) K)
def f91t0 N a b c (K:KT J):f91j N 1 (f91s0 a b c) ZZ K =
 gy.Z0 N a b c (λd=>K .ret (f91s1 d)):=by kernel_rfl
def f91ok(h:gy.Spec):ay Tryz.prog 91 pF :=
 bI Tryz.func91 bu ZY (λN X K=>f91t0 N X.1 X.2.1 X.2.2.1 K) (by kernel_rfl) λX hb hp=>by obtain⟨a,b,c,_⟩:=X;obtain⟨N,h⟩:=h a b c;exact⟨N,Eq.trans (by kernel_rfl) (h N (Nat.le_refl N))⟩
def vd:ay Tryz.prog 91 pF:=f91ok gy.ok
def HD:bc:=⟨[⟨.int .i64,false,false⟩],[⟨.bool,false,false⟩]⟩
def AA:aQ:=⟨HD,none,λX=>((),((gz.g X.1),()))⟩
def HE:Gm:=aK be 91 pF
def f142GOk:av Tryz.prog HE:=(av.nil).add vd (by kernel_rfl)
def f142lE:ab:=⟨[],[],[],[],[]⟩
def f142s0(a:Int):St:=bA HD.ps (a,())
def f142s1(a:Bool):St:=ah [(2,xB a)] [] []
def f142l1:ab:=⟨[2],[],[],[],[]⟩
def f142B:Nat->Option ab:=aA [(1000000,f142l1)]
abbrev f142j{J:Type}(N n:Nat)(V:St)(l:ab)(K:KT J):Option J:=am HE bg f142B N (aZ 99 (bm Tryz.f142) n) .n V (az (some l) K)
def f142t0 N a (K:KT J):f142j N 1 (f142s0 a) f142lE K =
 gz.Z0 N a (λb=>K .ret (f142s1 b)):=by kernel_rfl
def f142ok(h:gz.Spec):ay Tryz.prog 142 AA :=
 bI Tryz.func142 bu f142GOk (λN X K=>f142t0 N X.1 K) (by kernel_rfl) λX hb hp=>by obtain⟨a,_⟩:=X;obtain⟨N,h⟩:=h a;exact⟨N,Eq.trans (by kernel_rfl) (h N (Nat.le_refl N))⟩
def e142ok:ay Tryz.prog 142 AA:=f142ok gz.ok
def HF:bc:=⟨[⟨.sl 3 (.int .i64),false,false⟩,⟨.fnc 142,false,false⟩],[⟨.int .i64,false,false⟩]⟩
def AB:aQ:=⟨HF,none,λX=>((),((fy.g X.1 X.2.1),()))⟩
def HG:Gm:=aK be 142 AA
def f174GOk:av Tryz.prog HG:=(av.nil).add e142ok (by kernel_rfl)
def f174lE:ab:=⟨[],[],[],[],[]⟩
def f174s0(a:LI)(b:Unit):St:=bA HF.ps (a,(b,()))
def HH(a:LI):St:=ah [(0,.c (.sn 3 tI a none)),(1,.c (.fn 142 []))] [] []
def f174l1:ab:=⟨[0,1],[],[],[],[]⟩
def ve(a:LI)(b d:Int):St:=ah [(0,.c (.sn 3 tI a none)),(1,.c (.fn 142 [])),(7,xi b),(8,xi d)] [] []
def HI:ab:=⟨[0,1,7,8],[],[],[],[]⟩
def sh :St:=ah [] [] []
def AC:ab:=⟨[],[],[],[],[]⟩
def pG(a:Int):St:=ah [(4,xi a)] [] []
def f174l4:ab:=⟨[4],[],[],[],[]⟩
def f174B:Nat->Option ab:=aA [(0,AC),(1000000,f174l4)]
abbrev vg{J:Type}(N n:Nat)(V:St)(l:ab)(K:KT J):Option J:=am HG bg f174B N (aZ 99 (bm Tryz.f174) n) .n V (az (some l) K)
def f174t1 N a b (K:KT J):vg N 2 (f174s0 a b) f174l1 K =
 fy.Z1 N a b (λa=>K .nrm (HH a)):=by kernel_rfl
def f174t4 N a (K:KT J):vg N 9 (HH a) HI K =
 fy.Z4 N a (λa b c=>K .nrm (ve a b c)):=by kernel_rfl
def f174t7 N a b c (K:KT J):vg N 37 (ve a b c) HI K =
 fy.Z7 N a b c (λa b c=>K .nrm (ve a b c)) (K (.exit 0) sh) (λd=>K .ret (pG d)):=by kernel_rfl
def f174t6L N (K:KT J):=j0 K (fy.Z6L N (K (.exit 0) sh) (λa=>K .ret (pG a))) (λb c d k=>fy.Z7 N b c d k (K (.exit 0) sh) (λa=>K .ret (pG a))) (λF b c d=>f174t7 N b c d _) (by kernel_rfl)
def f174t6 N a b c (K:KT J):=vL (ve a b c) (f174t6L N (jK AC K) N a b c) (by kernel_rfl)
def f174t5 N a b c (K:KT J):=vB 0 AC K (fy.Z5 N a b c (K .nrm sh) (λd=>K .ret (pG d))) (f174t6 N a b c _) (by kernel_rfl)
def f174t3 N a (K:KT J):=vQ (λk=>fy.Z4 N a k) (f174t4 N a _) (cW λa b c=>f174t5 N a b c K)
def f174t8 N  (K:KT J):vg N 7 sh f174lE K =
 fy.Z8 N (λa=>K .ret (pG a)):=by kernel_rfl
def f174t2 N a (K:KT J):=vQ (λk=>fy.Z3 N a k (λb=>K .ret (pG b))) (f174t3 N a _) (f174t8 N K)
def f174t0 N a b (K:KT J):=vQ (λk=>fy.Z1 N a b k) (f174t1 N a b _) (funext λa=>f174t2 N a K)
def f174ok(h:fy.Spec):ay Tryz.prog 174 AB :=
 bI Tryz.func174 bu f174GOk (λN X K=>f174t0 N X.1 X.2.1 K) (by kernel_rfl) λX hb hp=>by obtain⟨a,b,_⟩:=X;obtain⟨N,h⟩:=h a b hb.1;exact⟨N,Eq.trans (by kernel_rfl) (h N (Nat.le_refl N))⟩
def e174ok:ay Tryz.prog 174 AB:=f174ok fy.ok
def HJ:bc:=⟨[⟨.sl 3 (.int .i64),false,false⟩,⟨.fnc 142,false,false⟩],[⟨.bool,false,false⟩]⟩
def AD:aQ:=⟨HJ,none,λX=>((),((kY.g X.1 X.2.1),()))⟩
def HK:Gm:=aK be 174 AB
def f141GOk:av Tryz.prog HK:=(av.nil).add e174ok (by kernel_rfl)
def f141lE:ab:=⟨[],[],[],[],[]⟩
def f141s0(a:LI)(b:Unit):St:=bA HJ.ps (a,(b,()))
def f141s1(a:Bool):St:=ah [(4,xB a)] [] []
def f141l1:ab:=⟨[4],[],[],[],[]⟩
def f141B:Nat->Option ab:=aA [(1000000,f141l1)]
abbrev f141j{J:Type}(N n:Nat)(V:St)(l:ab)(K:KT J):Option J:=am HK bg f141B N (aZ 99 (bm Tryz.f141) n) .n V (az (some l) K)
def f141t0 N a b (K:KT J):f141j N 1 (f141s0 a b) f141lE K =
 kY.Z0 N a b (λc=>K .ret (f141s1 c)):=by kernel_rfl
def f141ok(h:kY.Spec):ay Tryz.prog 141 AD :=
 bI Tryz.func141 bu f141GOk (λN X K=>f141t0 N X.1 X.2.1 K) (by kernel_rfl) λX hb hp=>by obtain⟨a,b,_⟩:=X;obtain⟨N,h⟩:=h a b hb.1;exact⟨N,Eq.trans (by kernel_rfl) (h N (Nat.le_refl N))⟩
def e141ok:ay Tryz.prog 141 AD:=f141ok kY.ok
def HL:bc:=⟨[⟨.pair (.int .i64) (.pair (.int .i64) (.sl 3 (.int .i64))),true,false⟩],[⟨.bool,false,false⟩]⟩
def AE:aQ:=⟨HL,none,λX=>((),((kZ.g X.1),()))⟩
def HM:Gm:=aK (aK be 91 pF) 141 AD
def f102GOk:av Tryz.prog HM:=((av.nil).add vd (by kernel_rfl)).add e141ok (by kernel_rfl)
def f102lE:ab:=⟨[],[],[],[],[]⟩
def f102s0(a:MT):St:=bA HL.ps (a,())
def f102s1(a:Bool):St:=ah [(2,xB a)] [] []
def f102l1:ab:=⟨[2],[],[],[],[]⟩
def f102B:Nat->Option ab:=aA [(1000000,f102l1)]
abbrev f102j{J:Type}(N n:Nat)(V:St)(l:ab)(K:KT J):Option J:=am HM bg f102B N (aZ 99 (bm Tryz.f102) n) .n V (az (some l) K)
def f102t0 N a (K:KT J):f102j N 1 (f102s0 a) f102lE K =
 kZ.Z0 N a (λb=>K .ret (f102s1 b)):=by kernel_rfl
def f102ok(h:kZ.Spec):ay Tryz.prog 102 AE :=
 bI Tryz.func102 bu f102GOk (λN X K=>f102t0 N X.1 K) (by kernel_rfl) λX hb hp=>by obtain⟨a,_⟩:=X;obtain⟨N,h⟩:=h a hb.1;exact⟨N,Eq.trans (by kernel_rfl) (h N (Nat.le_refl N))⟩
def e102ok:ay Tryz.prog 102 AE:=f102ok kZ.ok
def HN:bc:=⟨[⟨.pair (.int .i64) (.pair (.int .i64) (.sl 3 (.int .i64))),true,false⟩,⟨.int .i64,false,false⟩,⟨.int .i64,false,false⟩],[⟨.int .i64,false,false⟩]⟩
def l7:aQ:=⟨HN,(some λX=>b9.P X.1 X.2.1 X.2.2.1),λX=>((),((b9.g X.1 X.2.1 X.2.2.1),()))⟩
def HO:Gm:=be
def f83GOk:av Tryz.prog HO:=av.nil
def f83lE:ab:=⟨[],[],[],[],[]⟩
def f83s0(a:MT)(b c:Int):St:=bA HN.ps (a,(b,(c,())))
def f83s1(a:Int):St:=ah [(6,xi a)] [] []
def f83l1:ab:=⟨[6],[],[],[],[]⟩
def f83B:Nat->Option ab:=aA [(1000000,f83l1)]
abbrev f83j{J:Type}(N n:Nat)(V:St)(l:ab)(K:KT J):Option J:=am HO bg f83B N (aZ 99 (bm Tryz.f83) n) .n V (az (some l) K)
def f83t0 N a b c (K:KT J):f83j N 1 (f83s0 a b c) f83lE K =
 b9.Z0 N a b c (λd=>K .ret (f83s1 d)):=by kernel_rfl
def f83ok(h:b9.Spec):ay Tryz.prog 83 l7 :=
 bI Tryz.func83 bu f83GOk (λN X K=>f83t0 N X.1 X.2.1 X.2.2.1 K) (by kernel_rfl) λX hb hp=>by obtain⟨a,b,c,_⟩:=X;obtain⟨N,h⟩:=h a b c hb.1 hp;exact⟨N,Eq.trans (by kernel_rfl) (h N (Nat.le_refl N))⟩
def pH:ay Tryz.prog 83 l7:=f83ok b9.ok
def HP:bc:=⟨[⟨.int .i64,false,false⟩,⟨.int .i64,false,false⟩],[⟨.int .i64,false,false⟩]⟩
def AF:aQ:=⟨HP,(some λX=>dc.P X.1 X.2.1),λX=>((),((dc.g X.1 X.2.1),()))⟩
def HQ:Gm:=be
def f143GOk:av Tryz.prog HQ:=av.nil
def f143lE:ab:=⟨[],[],[],[],[]⟩
def f143s0(a b:Int):St:=bA HP.ps (a,(b,()))
def vh(a b:Int):St:=ah [(0,xi a),(1,xi b)] [] []
def HR:ab:=⟨[0,1],[],[],[],[]⟩
def sj(a:Int):St:=ah [(0,xi a)] [] []
def AG:ab:=⟨[0],[],[],[],[]⟩
def f143s3(a:Int):St:=ah [(4,xi a)] [] []
def f143l3:ab:=⟨[4],[],[],[],[]⟩
def f143B:Nat->Option ab:=aA [(0,AG),(1000000,f143l3)]
abbrev AH{J:Type}(N n:Nat)(V:St)(l:ab)(K:KT J):Option J:=am HQ bg f143B N (aZ 99 (bm Tryz.f143) n) .n V (az (some l) K)
def f143t1 N a b (K:KT J):AH N 2 (f143s0 a b) HR K =
 dc.Z1 N a b (λa b=>K .nrm (vh a b)):=by kernel_rfl
def f143t5 N a b (K:KT J):AH N 17 (vh a b) HR K =
 dc.Z5 N a b (λa b=>K .nrm (vh a b)) (λa=>K (.exit 0) (sj a)):=by kernel_rfl
def f143t4L N (K:KT J):=yF K (dc.Z4L N (λa=>K (.exit 0) (sj a))) (λa b k=>dc.Z5 N a b k (λa=>K (.exit 0) (sj a))) (λF a b=>f143t5 N a b _) (by kernel_rfl)
def f143t4 N a b (K:KT J):=vL (vh a b) (f143t4L N (jK AG K) N a b) (by kernel_rfl)
def f143t3 N a b (K:KT J):=vB 0 AG K (dc.Z3 N a b (λa=>K .nrm (sj a))) (f143t4 N a b _) (by kernel_rfl)
def f143t6 N a (K:KT J):AH N 7 (sj a) f143lE K =
 dc.Z6 N a (λb=>K .ret (f143s3 b)):=by kernel_rfl
def f143t2 N a b (K:KT J):=vQ (λk=>dc.Z3 N a b k) (f143t3 N a b _) (funext λa=>f143t6 N a K)
def f143t0 N a b (K:KT J):=vQ (λk=>dc.Z1 N a b k) (f143t1 N a b _) (eN λa b=>f143t2 N a b K)
def f143ok(h:dc.Spec):ay Tryz.prog 143 AF :=
 bI Tryz.func143 bu f143GOk (λN X K=>f143t0 N X.1 X.2.1 K) (by kernel_rfl) λX hb hp=>by obtain⟨a,b,_⟩:=X;obtain⟨N,h⟩:=h a b hp;exact⟨N,Eq.trans (by kernel_rfl) (h N (Nat.le_refl N))⟩
def e143ok:ay Tryz.prog 143 AF:=f143ok dc.ok
def HS:bc:=⟨[⟨.pair (.int .i64) (.pair (.int .i64) (.sl 3 (.int .i64))),true,false⟩],[⟨.sl 3 (.int .i64),false,true⟩]⟩
def AI:aQ:=⟨HS,(some λX=>aH.P X.1),λX=>((),((aH.g X.1),()))⟩
def HT:Gm:=aK (aK be 83 l7) 143 AF
def f103GOk:av Tryz.prog HT:=((av.nil).add pH (by kernel_rfl)).add e143ok (by kernel_rfl)
def f103lE:ab:=⟨[],[],[],[],[]⟩
def f103s0(a:MT):St:=bA HS.ps (a,())
def HU(a b:Int)(c:LI):St:=ah [(1,xb 1)] [(1,(27,[yi a,yi b,.sn 3 tI c none]))] []
def f103l1:ab:=⟨[1],[1],[],[],[]⟩
def HV(a b:LI)(c d:Int)(e:LI):St:=ah [(1,xb 1),(3,xo 1000192),(4,xo 1000256)] [(1,(27,[yi c,yi d,.sn 3 tI e none]))] [(1000192,(⟨3,.int .i64,a,true,false⟩:ae)),(1000256,(⟨3,.int .i64,b,true,false⟩:ae))]
def f103l2:ab:=⟨[1,3,4],[1],[],[],[(⟨false,3,0⟩,1000192),(⟨false,4,0⟩,1000256)]⟩
def HW(a b c:LI)(d e:Int)(f:LI):St:=ah [(1,xb 1),(3,xo 1000192),(4,xo 1000256),(5,xo 1000320)] [(1,(27,[yi d,yi e,.sn 3 tI f none]))] [(1000192,(⟨3,.int .i64,a,true,false⟩:ae)),(1000256,(⟨3,.int .i64,b,true,false⟩:ae)),(1000320,(⟨3,.int .i64,c,true,false⟩:ae))]
def f103l3:ab:=⟨[1,3,4,5],[1],[],[],[(⟨false,3,0⟩,1000192),(⟨false,4,0⟩,1000256),(⟨false,5,0⟩,1000320)]⟩
def g8(a b c:LI)(d e f g:Int)(h:LI):St:=ah [(1,xb 1),(3,xo 1000192),(4,xo 1000256),(5,xo 1000320),(34,xi d),(35,xi e)] [(1,(27,[yi f,yi g,.sn 3 tI h none]))] [(1000192,(⟨3,.int .i64,a,true,false⟩:ae)),(1000256,(⟨3,.int .i64,b,true,false⟩:ae)),(1000320,(⟨3,.int .i64,c,true,false⟩:ae))]
def l8:ab:=⟨[1,3,4,5,34,35],[1],[],[],[(⟨false,3,0⟩,1000192),(⟨false,4,0⟩,1000256),(⟨false,5,0⟩,1000320)]⟩
def HX(a b c:LI)(d e:Int)(f:Bool)(g h:Int)(i:LI):St:=ah [(1,xb 1),(3,xo 1000192),(4,xo 1000256),(5,xo 1000320),(34,xi d),(35,xi e),(36,xB f)] [(1,(27,[yi g,yi h,.sn 3 tI i none]))] [(1000192,(⟨3,.int .i64,a,true,false⟩:ae)),(1000256,(⟨3,.int .i64,b,true,false⟩:ae)),(1000320,(⟨3,.int .i64,c,true,false⟩:ae))]
def f103l5:ab:=⟨[1,3,4,5,34,35,36],[1],[],[],[(⟨false,3,0⟩,1000192),(⟨false,4,0⟩,1000256),(⟨false,5,0⟩,1000320)]⟩
def pI(a b c:LI)(d e f g h:Int)(i:LI):St:=ah [(1,xb 1),(3,xo 1000192),(4,xo 1000256),(5,xo 1000320),(6,xi d),(34,xi e),(35,xi f)] [(1,(27,[yi g,yi h,.sn 3 tI i none]))] [(1000192,(⟨3,.int .i64,a,true,false⟩:ae)),(1000256,(⟨3,.int .i64,b,true,false⟩:ae)),(1000320,(⟨3,.int .i64,c,true,false⟩:ae))]
def AJ:ab:=⟨[1,3,4,5,6,34,35],[1],[],[],[(⟨false,3,0⟩,1000192),(⟨false,4,0⟩,1000256),(⟨false,5,0⟩,1000320)]⟩
def l9(a b c d:LI)(e f g h:Int)(i:LI):St:=ah [(1,xb 1),(3,xo 1000192),(4,xo 1000256),(5,xo 1000320),(7,xo 1000448),(34,xi e),(35,xi f)] [(1,(27,[yi g,yi h,.sn 3 tI i none]))] [(1000192,(⟨3,.int .i64,a,true,false⟩:ae)),(1000256,(⟨3,.int .i64,b,true,false⟩:ae)),(1000320,(⟨3,.int .i64,c,true,false⟩:ae)),(1000448,(⟨3,.int .i64,d,true,false⟩:ae))]
def vj:ab:=⟨[1,3,4,5,7,34,35],[1],[],[],[(⟨false,3,0⟩,1000192),(⟨false,4,0⟩,1000256),(⟨false,5,0⟩,1000320),(⟨false,7,0⟩,1000448)]⟩
def iF(a b c d:LI)(e f g h i:Int)(j:LI):St:=ah [(1,xb 1),(3,xo 1000192),(4,xo 1000256),(5,xo 1000320),(7,xo 1000448),(8,xi e),(34,xi f),(35,xi g)] [(1,(27,[yi h,yi i,.sn 3 tI j none]))] [(1000192,(⟨3,.int .i64,a,true,false⟩:ae)),(1000256,(⟨3,.int .i64,b,true,false⟩:ae)),(1000320,(⟨3,.int .i64,c,true,false⟩:ae)),(1000448,(⟨3,.int .i64,d,true,false⟩:ae))]
def ma:ab:=⟨[1,3,4,5,7,8,34,35],[1],[],[],[(⟨false,3,0⟩,1000192),(⟨false,4,0⟩,1000256),(⟨false,5,0⟩,1000320),(⟨false,7,0⟩,1000448)]⟩
def HY(a b c d:LI)(e f g h i j:Int)(l:LI):St:=ah [(1,xb 1),(3,xo 1000192),(4,xo 1000256),(5,xo 1000320),(7,xo 1000448),(8,xi e),(9,xi f),(34,xi g),(35,xi h)] [(1,(27,[yi i,yi j,.sn 3 tI l none]))] [(1000192,(⟨3,.int .i64,a,true,false⟩:ae)),(1000256,(⟨3,.int .i64,b,true,false⟩:ae)),(1000320,(⟨3,.int .i64,c,true,false⟩:ae)),(1000448,(⟨3,.int .i64,d,true,false⟩:ae))]
def f103l9:ab:=⟨[1,3,4,5,7,8,9,34,35],[1],[],[],[(⟨false,3,0⟩,1000192),(⟨false,4,0⟩,1000256),(⟨false,5,0⟩,1000320),(⟨false,7,0⟩,1000448)]⟩
def jN(a b c d:LI)(e f g h i j l m:Int)(o:LI):St:=ah [(1,xb 1),(3,xo 1000192),(4,xo 1000256),(5,xo 1000320),(7,xo 1000448),(8,xi e),(9,xi f),(34,xi g),(35,xi h),(62,xi i),(63,xi j)] [(1,(27,[yi l,yi m,.sn 3 tI o none]))] [(1000192,(⟨3,.int .i64,a,true,false⟩:ae)),(1000256,(⟨3,.int .i64,b,true,false⟩:ae)),(1000320,(⟨3,.int .i64,c,true,false⟩:ae)),(1000448,(⟨3,.int .i64,d,true,false⟩:ae))]
def pJ:ab:=⟨[1,3,4,5,7,8,9,34,35,62,63],[1],[],[],[(⟨false,3,0⟩,1000192),(⟨false,4,0⟩,1000256),(⟨false,5,0⟩,1000320),(⟨false,7,0⟩,1000448)]⟩
def HZ(a b c d:LI)(e f g h i j:Int)(l:Bool)(m o:Int)(p:LI):St:=ah [(1,xb 1),(3,xo 1000192),(4,xo 1000256),(5,xo 1000320),(7,xo 1000448),(8,xi e),(9,xi f),(34,xi g),(35,xi h),(62,xi i),(63,xi j),(64,xB l)] [(1,(27,[yi m,yi o,.sn 3 tI p none]))] [(1000192,(⟨3,.int .i64,a,true,false⟩:ae)),(1000256,(⟨3,.int .i64,b,true,false⟩:ae)),(1000320,(⟨3,.int .i64,c,true,false⟩:ae)),(1000448,(⟨3,.int .i64,d,true,false⟩:ae))]
def f103l11:ab:=⟨[1,3,4,5,7,8,9,34,35,62,63,64],[1],[],[],[(⟨false,3,0⟩,1000192),(⟨false,4,0⟩,1000256),(⟨false,5,0⟩,1000320),(⟨false,7,0⟩,1000448)]⟩
def H0(a b c d:LI)(e f g h i j l m o:Int)(p:LI):St:=ah [(1,xb 1),(3,xo 1000192),(4,xo 1000256),(5,xo 1000320),(7,xo 1000448),(8,xi e),(9,xi f),(10,xi g),(34,xi h),(35,xi i),(62,xi j),(63,xi l)] [(1,(27,[yi m,yi o,.sn 3 tI p none]))] [(1000192,(⟨3,.int .i64,a,true,false⟩:ae)),(1000256,(⟨3,.int .i64,b,true,false⟩:ae)),(1000320,(⟨3,.int .i64,c,true,false⟩:ae)),(1000448,(⟨3,.int .i64,d,true,false⟩:ae))]
def f103l12:ab:=⟨[1,3,4,5,7,8,9,10,34,35,62,63],[1],[],[],[(⟨false,3,0⟩,1000192),(⟨false,4,0⟩,1000256),(⟨false,5,0⟩,1000320),(⟨false,7,0⟩,1000448)]⟩
def vk(a b c d:LI)(e f g h i j l m o p q:Int)(r:LI):St:=ah [(1,xb 1),(3,xo 1000192),(4,xo 1000256),(5,xo 1000320),(7,xo 1000448),(8,xi e),(9,xi f),(10,xi g),(11,xi h),(12,xi i),(34,xi j),(35,xi l),(62,xi m),(63,xi o)] [(1,(27,[yi p,yi q,.sn 3 tI r none]))] [(1000192,(⟨3,.int .i64,a,true,false⟩:ae)),(1000256,(⟨3,.int .i64,b,true,false⟩:ae)),(1000320,(⟨3,.int .i64,c,true,false⟩:ae)),(1000448,(⟨3,.int .i64,d,true,false⟩:ae))]
def H1:ab:=⟨[1,3,4,5,7,8,9,10,11,12,34,35,62,63],[1],[],[],[(⟨false,3,0⟩,1000192),(⟨false,4,0⟩,1000256),(⟨false,5,0⟩,1000320),(⟨false,7,0⟩,1000448)]⟩
def nM(a b c d:LI)(e f g h i:Int)(j:LI):St:=ah [(1,xb 1),(3,xo 1000192),(4,xo 1000256),(5,xo 1000320),(7,xo 1000448),(16,xi e),(34,xi f),(35,xi g)] [(1,(27,[yi h,yi i,.sn 3 tI j none]))] [(1000192,(⟨3,.int .i64,a,true,false⟩:ae)),(1000256,(⟨3,.int .i64,b,true,false⟩:ae)),(1000320,(⟨3,.int .i64,c,true,false⟩:ae)),(1000448,(⟨3,.int .i64,d,true,false⟩:ae))]
def vl:ab:=⟨[1,3,4,5,7,16,34,35],[1],[],[],[(⟨false,3,0⟩,1000192),(⟨false,4,0⟩,1000256),(⟨false,5,0⟩,1000320),(⟨false,7,0⟩,1000448)]⟩
def vm(a b c d:LI)(e f g h i j l:Int)(m:LI):St:=ah [(1,xb 1),(3,xo 1000192),(4,xo 1000256),(5,xo 1000320),(7,xo 1000448),(16,xi e),(34,xi f),(35,xi g),(158,xo 1000448),(159,xi h),(160,xi i)] [(1,(27,[yi j,yi l,.sn 3 tI m none]))] [(1000192,(⟨3,.int .i64,a,true,false⟩:ae)),(1000256,(⟨3,.int .i64,b,true,false⟩:ae)),(1000320,(⟨3,.int .i64,c,true,false⟩:ae)),(1000448,(⟨3,.int .i64,d,true,false⟩:ae))]
def H2:ab:=⟨[1,3,4,5,7,16,34,35,158,159,160],[1],[],[],[(⟨false,3,0⟩,1000192),(⟨false,4,0⟩,1000256),(⟨false,5,0⟩,1000320),(⟨false,7,0⟩,1000448)]⟩
def H3(a b c d:LI)(e f g h i j:Int)(l:LI):St:=ah [(1,xb 1),(3,xo 1000192),(4,xo 1000256),(5,xo 1000320),(7,xo 1000448),(16,xi e),(19,xi f),(34,xi g),(35,xi h)] [(1,(27,[yi i,yi j,.sn 3 tI l none]))] [(1000192,(⟨3,.int .i64,a,true,false⟩:ae)),(1000256,(⟨3,.int .i64,b,true,false⟩:ae)),(1000320,(⟨3,.int .i64,c,true,false⟩:ae)),(1000448,(⟨3,.int .i64,d,true,false⟩:ae))]
def f103l16:ab:=⟨[1,3,4,5,7,16,19,34,35],[1],[],[],[(⟨false,3,0⟩,1000192),(⟨false,4,0⟩,1000256),(⟨false,5,0⟩,1000320),(⟨false,7,0⟩,1000448)]⟩
def vn(a b c d:LI)(e f g h i j l m:Int)(o:LI):St:=ah [(1,xb 1),(3,xo 1000192),(4,xo 1000256),(5,xo 1000320),(7,xo 1000448),(16,xi e),(19,xi f),(34,xi g),(35,xi h),(178,xo 1000448),(179,xi i),(180,xi j)] [(1,(27,[yi l,yi m,.sn 3 tI o none]))] [(1000192,(⟨3,.int .i64,a,true,false⟩:ae)),(1000256,(⟨3,.int .i64,b,true,false⟩:ae)),(1000320,(⟨3,.int .i64,c,true,false⟩:ae)),(1000448,(⟨3,.int .i64,d,true,false⟩:ae))]
def H4:ab:=⟨[1,3,4,5,7,16,19,34,35,178,179,180],[1],[],[],[(⟨false,3,0⟩,1000192),(⟨false,4,0⟩,1000256),(⟨false,5,0⟩,1000320),(⟨false,7,0⟩,1000448)]⟩
def sm(a b c d:LI)(e f g h i:Int)(j:LI):St:=ah [(1,xb 1),(3,xo 1000192),(4,xo 1000256),(5,xo 1000320),(7,xo 1000448),(19,xi e),(34,xi f),(35,xi g)] [(1,(27,[yi h,yi i,.sn 3 tI j none]))] [(1000192,(⟨3,.int .i64,a,true,false⟩:ae)),(1000256,(⟨3,.int .i64,b,true,false⟩:ae)),(1000320,(⟨3,.int .i64,c,true,false⟩:ae)),(1000448,(⟨3,.int .i64,d,true,false⟩:ae))]
def AK:ab:=⟨[1,3,4,5,7,19,34,35],[1],[],[],[(⟨false,3,0⟩,1000192),(⟨false,4,0⟩,1000256),(⟨false,5,0⟩,1000320),(⟨false,7,0⟩,1000448)]⟩
def vo(a b c d:LI)(e f g h i j l:Int)(m:LI):St:=ah [(1,xb 1),(3,xo 1000192),(4,xo 1000256),(5,xo 1000320),(19,xi e),(34,xi f),(35,xi g),(205,xo 1013120),(206,xi h),(207,xi i)] [(1,(27,[yi j,yi l,.sn 3 tI m none]))] [(1000192,(⟨3,.int .i64,a,true,false⟩:ae)),(1000256,(⟨3,.int .i64,b,true,false⟩:ae)),(1000320,(⟨3,.int .i64,c,true,false⟩:ae)),(1013120,(⟨3,.int .i64,d,true,false⟩:ae))]
def H5:ab:=⟨[1,3,4,5,19,34,35,205,206,207],[1],[],[],[(⟨false,3,0⟩,1000192),(⟨false,4,0⟩,1000256),(⟨false,5,0⟩,1000320),(⟨false,205,0⟩,1013120)]⟩
def pL(a:LI):St:=ah [(5,xo 1000320)] [] [(1000320,(⟨3,.int .i64,a,true,false⟩:ae))]
def AL:ab:=⟨[5],[],[],[],[(⟨false,5,0⟩,1000320)]⟩
def fu(a:LI):St:=ah [(2,xo 1001000128)] [] [(1001000128,(⟨3,.int .i64,a,true,true⟩:ae))]
def f103l21:ab:=⟨[2],[],[⟨⟨false,2,0⟩,30000000,3,.int .i64,true⟩],[],[(⟨false,2,0⟩,1001000128)]⟩
def f103B:Nat->Option ab:=aA [(5,pJ),(4,ma),(3,ma),(2,vj),(6,vl),(8,AK),(10,l8),(1,l8),(0,AL),(1000000,f103l21)]
abbrev cY{J:Type}(N n:Nat)(V:St)(l:ab)(K:KT J):Option J:=am HT bg f103B N (aZ 99 (bm Tryz.f103) n) .n V (az (some l) K)
def f103t1 N a (K:KT J):cY N 2 (f103s0 a) f103l1 K =
 aH.Z1 N a (λb c d=>K .nrm (HU b c d)):=by kernel_rfl
def f103t3 N a b c (K:KT J):cY N 5 (HU a b c) f103l2 K =
 aH.Z3 N a b c (λd e a b c=>K .nrm (HV d e a b c)):=by kernel_rfl
def f103t5 N a b c d e (K:KT J):cY N 11 (HV a b c d e) f103l3 K =
 aH.Z5 N a b c d e (λa b f c d e=>K .nrm (HW a b f c d e)):=by kernel_rfl
def f103t8 N a b c d e f (K:KT J):cY N 39 (HW a b c d e f) l8 K =
 aH.Z8 N a b c d e f (λa b c g h d e f=>K .nrm (g8 a b c g h d e f)):=by kernel_rfl
def f103t12 N a b c d e f g h (K:KT J):cY N 279 (g8 a b c d e f g h) f103l5 K =
 aH.Z12 N a b c d e f g h (λa b c d e i f g h=>K .nrm (HX a b c d e i f g h)):=by kernel_rfl
def f103t14 N b c a d e i f g h (K:KT J):cY N 663 (HX b c a d e i f g h) l8 K =
 aH.Z14 N b c a d e i f g h (λb c a d e f g h=>K .nrm (g8 b c a d e f g h)) (λa=>K (.exit 0) (pL a)):=by kernel_rfl
def f103t18 N a b c d e f g h (K:KT J):cY N 4503 (g8 a b c d e f g h) AJ K =
 aH.Z18 N a b c d e f g h (λa b c i d e f g h=>K .nrm (pI a b c i d e f g h)):=by kernel_rfl
def f103t20 N a b c i d e f g h (K:KT J):cY N 10647 (pI a b c i d e f g h) AJ K =
 aH.Z20 N a b c i d e f g h (λa b c i d e f g h=>K .nrm (pI a b c i d e f g h)) (λa b c d e f g h=>K (.exit 1) (g8 a b c d e f g h)):=by kernel_rfl
def f103t22 N a b c d e f g h i (K:KT J):cY N 22935 (pI a b c d e f g h i) AJ K =
 aH.Z22 N a b c d e f g h i (λa b c d e f g h i=>K .nrm (pI a b c d e f g h i)):=by kernel_rfl
def f103t24 N a b c i d e f g h (K:KT J):cY N 47511 (pI a b c i d e f g h) vj K =
 aH.Z24 N a b c i d e f g h (λa b c j d e f g h=>K .nrm (l9 a b c j d e f g h)):=by kernel_rfl
def f103t27 N a b c d e f g h i (K:KT J):cY N 162199 (l9 a b c d e f g h i) ma K =
 aH.Z27 N a b c d e f g h i (λa b c d j e f g h i=>K .nrm (iF a b c d j e f g h i)):=by kernel_rfl
def f103t31 N a b c d j e f g h i (K:KT J):cY N 1145239 (iF a b c d j e f g h i) ma K =
 aH.Z31 N a b c d j e f g h i (λa b c d j e f g h i=>K .nrm (iF a b c d j e f g h i)) (λa b c d e f g h i=>K (.exit 2) (l9 a b c d e f g h i)):=by kernel_rfl
def f103t35 N a b c d e f g h i j (K:KT J):cY N 9009559 (iF a b c d e f g h i j) f103l9 K =
 aH.Z35 N a b c d e f g h i j (λa b c d e l f g h i j=>K .nrm (HY a b c d e l f g h i j)):=by kernel_rfl
def f103t37 N a b c d e f g h i j l (K:KT J):cY N 21592471 (HY a b c d e f g h i j l) pJ K =
 aH.Z37 N a b c d e f g h i j l (λa b c d e f g h m o i j l=>K .nrm (jN a b c d e f g h m o i j l)):=by kernel_rfl
def f103t41 N a b c d e f g h i j l m o (K:KT J):cY N 147421591 (jN a b c d e f g h i j l m o) f103l11 K =
 aH.Z41 N a b c d e f g h i j l m o (λa b c d e f g h i j p l m o=>K .nrm (HZ a b c d e f g h i j p l m o)):=by kernel_rfl
def f103t43 N a b c d e l f g m o p h i j (K:KT J):cY N 348748183 (HZ a b c d e l f g m o p h i j) pJ K =
 aH.Z43 N a b c d e l f g m o p h i j (λa b c d e l f g m o h i j=>K .nrm (jN a b c d e l f g m o h i j)) (λa b c d e f g h i j=>K (.exit 4) (iF a b c d e f g h i j)):=by kernel_rfl
def f103t47 N a b c d e f g h i j l m o (K:KT J):cY N 2362014103 (jN a b c d e f g h i j l m o) f103l12 K =
 aH.Z47 N a b c d e f g h i j l m o (λa b c d e f p g h i j l m o=>K .nrm (H0 a b c d e f p g h i j l m o)):=by kernel_rfl
def f103t49 N a b c d e f g h i j l m o p (K:KT J):cY N 5583239575 (H0 a b c d e f g h i j l m o p) H1 K =
 aH.Z49 N a b c d e f g h i j l m o p (λa b c d e f g q r h i j l m o p=>K .nrm (vk a b c d e f g q r h i j l m o p)):=by kernel_rfl
def f103t51 N a b c d e f p q r g h i j l m o (K:KT J):cY N 12025690519 (vk a b c d e f p q r g h i j l m o) H1 K =
 aH.Z51 N a b c d e f p q r g h i j l m o (λa b c d e f p q r g h i j l m o=>K .nrm (vk a b c d e f p q r g h i j l m o)) (λa b c d e f g h i j l m o=>K (.exit 5) (jN a b c d e f g h i j l m o)):=by kernel_rfl
def f103t52 N a b c d e f p q r g h i j l m o (K:KT J):cY N 16320657815 (vk a b c d e f p q r g h i j l m o) pJ K =
 aH.Z52 N a b c d e f p q r g h i j l m o (λa b c d e f g h i j l m o=>K .nrm (jN a b c d e f g h i j l m o)) (λs=>K .ret (fu s)):=by kernel_rfl
def f103t50 N a b c d e f p q r g h i j l m o (K:KT J):=vQ (λk=>aH.Z51 N a b c d e f p q r g h i j l m o k (λa b c d e f g h i j l m o=>K (.exit 5) (jN a b c d e f g h i j l m o))) (f103t51 N a b c d e f p q r g h i j l m o _) (C9 λa b c d e f p q r g h i j l m o=>f103t52 N a b c d e f p q r g h i j l m o K)
def f103t48 N a b c d e f g h i j l m o p (K:KT J):=vQ (λk=>aH.Z49 N a b c d e f g h i j l m o p k) (f103t49 N a b c d e f g h i j l m o p _) (C9 λa b c d e f g q r h i j l m o p=>f103t50 N a b c d e f g q r h i j l m o p K)
def f103t46 N a b c d e f g h i j l m o (K:KT J):=vQ (λk=>aH.Z47 N a b c d e f g h i j l m o k) (f103t47 N a b c d e f g h i j l m o _) (tU λa b c d e f p g h i j l m o=>f103t48 N a b c d e f p g h i j l m o K)
def f103t45 N a b c d e f g h i j l m o (K:KT J):=vB 5 pJ K (aH.Z45 N a b c d e f g h i j l m o (λa b c d e f g h i j l m o=>K .nrm (jN a b c d e f g h i j l m o)) (λp=>K .ret (fu p))) (f103t46 N a b c d e f g h i j l m o _) (by kernel_rfl)
def f103t53 N a b c d e f g h i j l m o (K:KT J):cY N 1019836823 (jN a b c d e f g h i j l m o) pJ K =
 aH.Z53 N a b c d e f g h i j l m o (λa b c d e f g h i j l m o=>K .nrm (jN a b c d e f g h i j l m o)):=by kernel_rfl
def f103t44 N a b c d e f g h i j l m o (K:KT J):=vQ (λk=>aH.Z45 N a b c d e f g h i j l m o k (λp=>K .ret (fu p))) (f103t45 N a b c d e f g h i j l m o _) (nk λa b c d e f g h i j l m o=>f103t53 N a b c d e f g h i j l m o K)
def f103t42 N a b c d e l f g m o p h i j (K:KT J):=vQ (λk=>aH.Z43 N a b c d e l f g m o p h i j k (λa b c d e f g h i j=>K (.exit 4) (iF a b c d e f g h i j))) (f103t43 N a b c d e l f g m o p h i j _) (nk λa b c d e l f g m o h i j=>f103t44 N a b c d e l f g m o h i j K)
def f103t40 N a b c d e f g h i j l m o (K:KT J):=vQ (λk=>aH.Z41 N a b c d e f g h i j l m o k) (f103t41 N a b c d e f g h i j l m o _) (tU λa b c d e f g h i j p l m o=>f103t42 N a b c d e f g h i j p l m o K)
def f103t39L N (K:KT J):=rb K (aH.Z39L N (λa b c d e f g h i j=>K (.exit 4) (iF a b c d e f g h i j)) (λl=>K .ret (fu l))) (λa b c d e m f g o p h i j k=>aH.Z40 N a b c d e m f g o p h i j k (λa b c d e f g h i j=>K (.exit 4) (iF a b c d e f g h i j)) (λl=>K .ret (fu l))) (λF a b c d e m f g o p h i j=>f103t40 N a b c d e m f g o p h i j _) (by kernel_rfl)
def f103t39 N a b c d e f g h i j l m o (K:KT J):=vL (jN a b c d e f g h i j l m o) (f103t39L N (jK ma K) N a b c d e f g h i j l m o) (by kernel_rfl)
def f103t38 N a b c d e l f g m o h i j (K:KT J):=vB 4 ma K (aH.Z38 N a b c d e l f g m o h i j (λa b c d e f g h i j=>K .nrm (iF a b c d e f g h i j)) (λp=>K .ret (fu p))) (f103t39 N a b c d e l f g m o h i j _) (by kernel_rfl)
def f103t36 N a b c d e f g h i j l (K:KT J):=vQ (λk=>aH.Z37 N a b c d e f g h i j l k) (f103t37 N a b c d e f g h i j l _) (nk λa b c d e f g h m o i j l=>f103t38 N a b c d e f g h m o i j l K)
def f103t34 N a b c d e f g h i j (K:KT J):=vQ (λk=>aH.Z35 N a b c d e f g h i j k) (f103t35 N a b c d e f g h i j _) (gD λa b c d e l f g h i j=>f103t36 N a b c d e l f g h i j K)
def f103t33 N a b c d e f g h i j (K:KT J):=vB 3 ma K (aH.Z33 N a b c d e f g h i j (λa b c d e f g h i j=>K .nrm (iF a b c d e f g h i j)) (λl=>K .ret (fu l))) (f103t34 N a b c d e f g h i j _) (by kernel_rfl)
def f103t54 N a b c d e f g h i j (K:KT J):cY N 3766679 (iF a b c d e f g h i j) ma K =
 aH.Z54 N a b c d e f g h i j (λa b c d e f g h i j=>K .nrm (iF a b c d e f g h i j)):=by kernel_rfl
def f103t32 N a b c d e f g h i j (K:KT J):=vQ (λk=>aH.Z33 N a b c d e f g h i j k (λl=>K .ret (fu l))) (f103t33 N a b c d e f g h i j _) (dz λa b c d e f g h i j=>f103t54 N a b c d e f g h i j K)
def f103t30 N a b c d j e f g h i (K:KT J):=vQ (λk=>aH.Z31 N a b c d j e f g h i k (λa b c d e f g h i=>K (.exit 2) (l9 a b c d e f g h i))) (f103t31 N a b c d j e f g h i _) (dz λa b c d j e f g h i=>f103t32 N a b c d j e f g h i K)
def f103t29L N (K:KT J):=kH K (aH.Z29L N (λa b c d e f g h i=>K (.exit 2) (l9 a b c d e f g h i)) (λj=>K .ret (fu j))) (λa b c d l e f g h i k=>aH.Z30 N a b c d l e f g h i k (λa b c d e f g h i=>K (.exit 2) (l9 a b c d e f g h i)) (λj=>K .ret (fu j))) (λF a b c d l e f g h i=>f103t30 N a b c d l e f g h i _) (by kernel_rfl)
def f103t29 N a b c d e f g h i j (K:KT J):=vL (iF a b c d e f g h i j) (f103t29L N (jK vj K) N a b c d e f g h i j) (by kernel_rfl)
def f103t28 N a b c d j e f g h i (K:KT J):=vB 2 vj K (aH.Z28 N a b c d j e f g h i (λa b c d e f g h i=>K .nrm (l9 a b c d e f g h i)) (λl=>K .ret (fu l))) (f103t29 N a b c d j e f g h i _) (by kernel_rfl)
def f103t26 N a b c d e f g h i (K:KT J):=vQ (λk=>aH.Z27 N a b c d e f g h i k) (f103t27 N a b c d e f g h i _) (dz λa b c d j e f g h i=>f103t28 N a b c d j e f g h i K)
def f103t56 N a b c d e f g h i (K:KT J):cY N 194967 (l9 a b c d e f g h i) vl K =
 aH.Z56 N a b c d e f g h i (λa b c d j e f g h i=>K .nrm (nM a b c d j e f g h i)):=by kernel_rfl
def f103t59 N a b c d e f g h i j (K:KT J):cY N 653719 (nM a b c d e f g h i j) H2 K =
 aH.Z59 N a b c d e f g h i j (λa b c d e f g l m h i j=>K .nrm (vm a b c d e f g l m h i j)):=by kernel_rfl
def f103t62 N a b c d e f g l m h i j (K:KT J):cY N 2488727 (vm a b c d e f g l m h i j) H2 K =
 aH.Z62 N a b c d e f g l m h i j (λa b c d e f g l m h i j=>K .nrm (vm a b c d e f g l m h i j)) (λa b c d e f g h i j=>K (.exit 6) (nM a b c d e f g h i j)):=by kernel_rfl
def f103t61L N (K:KT J):=ra K (aH.Z61L N (λa b c d e f g h i j=>K (.exit 6) (nM a b c d e f g h i j))) (λa b c d e f g l m h i j k=>aH.Z62 N a b c d e f g l m h i j k (λa b c d e f g h i j=>K (.exit 6) (nM a b c d e f g h i j))) (λF a b c d e f g l m h i j=>f103t62 N a b c d e f g l m h i j _) (by kernel_rfl)
def f103t61 N a b c d e f g h i j l m (K:KT J):=vL (vm a b c d e f g h i j l m) (f103t61L N (jK vl K) N a b c d e f g h i j l m) (by kernel_rfl)
def f103t60 N a b c d e f g l m h i j (K:KT J):=vB 6 vl K (aH.Z60 N a b c d e f g l m h i j (λa b c d e f g h i j=>K .nrm (nM a b c d e f g h i j))) (f103t61 N a b c d e f g l m h i j _) (by kernel_rfl)
def f103t58 N a b c d e f g h i j (K:KT J):=vQ (λk=>aH.Z59 N a b c d e f g h i j k) (f103t59 N a b c d e f g h i j _) (oI λa b c d e f g l m h i j=>f103t60 N a b c d e f g l m h i j K)
def f103t64 N a b c d e f g h i j (K:KT J):cY N 784791 (nM a b c d e f g h i j) f103l16 K =
 aH.Z64 N a b c d e f g h i j (λa b c d e l f g h i j=>K .nrm (H3 a b c d e l f g h i j)):=by kernel_rfl
def f103t67 N a b c d e f g h i j l (K:KT J):cY N 2619799 (H3 a b c d e f g h i j l) H4 K =
 aH.Z67 N a b c d e f g h i j l (λa b c d e f g h m o i j l=>K .nrm (vn a b c d e f g h m o i j l)):=by kernel_rfl
def f103t70 N a b c d l e f g m o h i j (K:KT J):cY N 9959831 (vn a b c d l e f g m o h i j) H4 K =
 aH.Z70 N a b c d l e f g m o h i j (λa b c d l e f g m o h i j=>K .nrm (vn a b c d l e f g m o h i j)) (λa b c d e f g h i j=>K (.exit 8) (sm a b c d e f g h i j)):=by kernel_rfl
def f103t69L N (K:KT J):=rb K (aH.Z69L N (λa b c d e f g h i j=>K (.exit 8) (sm a b c d e f g h i j))) (λa b c d l e f g m o h i j k=>aH.Z70 N a b c d l e f g m o h i j k (λa b c d e f g h i j=>K (.exit 8) (sm a b c d e f g h i j))) (λF a b c d l e f g m o h i j=>f103t70 N a b c d l e f g m o h i j _) (by kernel_rfl)
def f103t69 N a b c d e f g h i j l m o (K:KT J):=vL (vn a b c d e f g h i j l m o) (f103t69L N (jK AK K) N a b c d e f g h i j l m o) (by kernel_rfl)
def f103t68 N a b c d l e f g m o h i j (K:KT J):=vB 8 AK K (aH.Z68 N a b c d l e f g m o h i j (λa b c d e f g h i j=>K .nrm (sm a b c d e f g h i j))) (f103t69 N a b c d l e f g m o h i j _) (by kernel_rfl)
def f103t66 N a b c d e f g h i j l (K:KT J):=vQ (λk=>aH.Z67 N a b c d e f g h i j l k) (f103t67 N a b c d e f g h i j l _) (nk λa b c d e f g h m o i j l=>f103t68 N a b c d e f g h m o i j l K)
def f103t72 N a b c j d e f g h i (K:KT J):cY N 3144087 (sm a b c j d e f g h i) H5 K =
 aH.Z72 N a b c j d e f g h i (λa b c l d e f m o g h i=>K .nrm (vo a b c l d e f m o g h i)):=by kernel_rfl
def f103t75 N a b c i j d e l m f g h (K:KT J):cY N 10484119 (vo a b c i j d e l m f g h) H5 K =
 aH.Z75 N a b c i j d e l m f g h (λa b c i j d e l m f g h=>K .nrm (vo a b c i j d e l m f g h)) (λa b c d e f g h=>K (.exit 10) (g8 a b c d e f g h)):=by kernel_rfl
def f103t74L N (K:KT J):=ra K (aH.Z74L N (λa b c d e f g h=>K (.exit 10) (g8 a b c d e f g h))) (λa b c i j d e l m f g h k=>aH.Z75 N a b c i j d e l m f g h k (λa b c d e f g h=>K (.exit 10) (g8 a b c d e f g h))) (λF a b c i j d e l m f g h=>f103t75 N a b c i j d e l m f g h _) (by kernel_rfl)
def f103t74 N a b c d e f g h i j l m (K:KT J):=vL (vo a b c d e f g h i j l m) (f103t74L N (jK l8 K) N a b c d e f g h i j l m) (by kernel_rfl)
def f103t73 N a b c i j d e l m f g h (K:KT J):=vB 10 l8 K (aH.Z73 N a b c i j d e l m f g h (λa b c d e f g h=>K .nrm (g8 a b c d e f g h))) (f103t74 N a b c i j d e l m f g h _) (by kernel_rfl)
def f103t71 N a b c j d e f g h i (K:KT J):=vQ (λk=>aH.Z72 N a b c j d e f g h i k) (f103t72 N a b c j d e f g h i _) (oI λa b c l d e f m o g h i=>f103t73 N a b c l d e f m o g h i K)
def f103t65 N a b c d l e f g h i j (K:KT J):=vQ (λk=>aH.Z66 N a b c d l e f g h i j k) (f103t66 N a b c d l e f g h i j _) (dz λa b c d e f g h i j=>f103t71 N a b c d e f g h i j K)
def f103t63 N a b c d e f g h i j (K:KT J):=vQ (λk=>aH.Z64 N a b c d e f g h i j k) (f103t64 N a b c d e f g h i j _) (gD λa b c d e l f g h i j=>f103t65 N a b c d e l f g h i j K)
def f103t57 N a b c d e f g h i j (K:KT J):=vQ (λk=>aH.Z58 N a b c d e f g h i j k) (f103t58 N a b c d e f g h i j _) (dz λa b c d e f g h i j=>f103t63 N a b c d e f g h i j K)
def f103t55 N a b c d e f g h i (K:KT J):=vQ (λk=>aH.Z56 N a b c d e f g h i k) (f103t56 N a b c d e f g h i _) (dz λa b c d j e f g h i=>f103t57 N a b c d j e f g h i K)
def f103t25 N a b c d e f g h i (K:KT J):=vQ (λk=>aH.Z26 N a b c d e f g h i k (λj=>K .ret (fu j))) (f103t26 N a b c d e f g h i _) (ee λa b c d e f g h i=>f103t55 N a b c d e f g h i K)
def f103t23 N a b c i d e f g h (K:KT J):=vQ (λk=>aH.Z24 N a b c i d e f g h k) (f103t24 N a b c i d e f g h _) (ee λa b c j d e f g h=>f103t25 N a b c j d e f g h K)
def f103t21 N a b c d e f g h i (K:KT J):=vQ (λk=>aH.Z22 N a b c d e f g h i k) (f103t22 N a b c d e f g h i _) (ee λa b c d e f g h i=>f103t23 N a b c d e f g h i K)
def f103t19 N a b c i d e f g h (K:KT J):=vQ (λk=>aH.Z20 N a b c i d e f g h k (λa b c d e f g h=>K (.exit 1) (g8 a b c d e f g h))) (f103t20 N a b c i d e f g h _) (ee λa b c i d e f g h=>f103t21 N a b c i d e f g h K)
def f103t17 N a b c d e f g h (K:KT J):=vQ (λk=>aH.Z18 N a b c d e f g h k) (f103t18 N a b c d e f g h _) (ee λa b c i d e f g h=>f103t19 N a b c i d e f g h K)
def f103t16 N a b c d e f g h (K:KT J):=vB 1 l8 K (aH.Z16 N a b c d e f g h (λa b c d e f g h=>K .nrm (g8 a b c d e f g h)) (λi=>K .ret (fu i))) (f103t17 N a b c d e f g h _) (by kernel_rfl)
def f103t76 N a b c d e f g h (K:KT J):cY N 1943 (g8 a b c d e f g h) l8 K =
 aH.Z76 N a b c d e f g h (λa b c d e f g h=>K .nrm (g8 a b c d e f g h)):=by kernel_rfl
def f103t15 N a b c d e f g h (K:KT J):=vQ (λk=>aH.Z16 N a b c d e f g h k (λi=>K .ret (fu i))) (f103t16 N a b c d e f g h _) (dy λa b c d e f g h=>f103t76 N a b c d e f g h K)
def f103t13 N b c a d e i f g h (K:KT J):=vQ (λk=>aH.Z14 N b c a d e i f g h k (λa=>K (.exit 0) (pL a))) (f103t14 N b c a d e i f g h _) (dy λb c a d e f g h=>f103t15 N b c a d e f g h K)
def f103t11 N a b c d e f g h (K:KT J):=vQ (λk=>aH.Z12 N a b c d e f g h k) (f103t12 N a b c d e f g h _) (ee λa b c d e i f g h=>f103t13 N a b c d e i f g h K)
def f103t10L N (K:KT J):=lG K (aH.Z10L N (λa=>K (.exit 0) (pL a)) (λb=>K .ret (fu b))) (λc d a e f g h i k=>aH.Z11 N c d a e f g h i k (λa=>K (.exit 0) (pL a)) (λb=>K .ret (fu b))) (λF c d a e f g h i=>f103t11 N c d a e f g h i _) (by kernel_rfl)
def f103t10 N a b c d e f g h (K:KT J):=vL (g8 a b c d e f g h) (f103t10L N (jK AL K) N a b c d e f g h) (by kernel_rfl)
def f103t9 N b c a d e f g h (K:KT J):=vB 0 AL K (aH.Z9 N b c a d e f g h (λa=>K .nrm (pL a)) (λi=>K .ret (fu i))) (f103t10 N b c a d e f g h _) (by kernel_rfl)
def f103t7 N a b c d e f (K:KT J):=vQ (λk=>aH.Z8 N a b c d e f k) (f103t8 N a b c d e f _) (dy λa b c g h d e f=>f103t9 N a b c g h d e f K)
def f103t77 N a (K:KT J):cY N 31 (pL a) f103lE K =
 aH.Z77 N a (λb=>K .ret (fu b)):=by kernel_rfl
def f103t6 N b c a d e f (K:KT J):=vQ (λk=>aH.Z7 N b c a d e f k (λg=>K .ret (fu g))) (f103t7 N b c a d e f _) (funext λa=>f103t77 N a K)
def f103t4 N a b c d e (K:KT J):=vQ (λk=>aH.Z5 N a b c d e k) (f103t5 N a b c d e _) (cN λa b f c d e=>f103t6 N a b f c d e K)
def f103t2 N a b c (K:KT J):=vQ (λk=>aH.Z3 N a b c k) (f103t3 N a b c _) (cH λd e a b c=>f103t4 N d e a b c K)
def f103t0 N a (K:KT J):=vQ (λk=>aH.Z1 N a k) (f103t1 N a _) (cW λb c d=>f103t2 N b c d K)
def f103ok(h:aH.Spec):ay Tryz.prog 103 AI :=
 bI Tryz.func103 bu f103GOk (λN X K=>f103t0 N X.1 K) (by kernel_rfl) λX hb hp=>by obtain⟨a,_⟩:=X;obtain⟨N,h⟩:=h a hb.1 hp;exact⟨N,Eq.trans (by kernel_rfl) (h N (Nat.le_refl N))⟩
def e103ok:ay Tryz.prog 103 AI:=f103ok aH.ok
def H6:bc:=⟨[⟨.pair (.int .i64) (.pair (.int .i64) (.sl 3 (.int .i64))),true,false⟩],[⟨.bool,false,false⟩]⟩
def mb:aQ:=⟨H6,none,λX=>((),((eU.g X.1),()))⟩
def H7:Gm:=aK (aK be 102 AE) 103 AI
def f63GOk:av Tryz.prog H7:=((av.nil).add e102ok (by kernel_rfl)).add e103ok (by kernel_rfl)
def f63lE:ab:=⟨[],[],[],[],[]⟩
def f63s0(a:MT):St:=bA H6.ps (a,())
def f63s1(a:Bool):St:=ah [(2,xB a)] [] []
def f63l1:ab:=⟨[2],[],[],[],[]⟩
def f63B:Nat->Option ab:=aA [(1000000,f63l1)]
abbrev f63j{J:Type}(N n:Nat)(V:St)(l:ab)(K:KT J):Option J:=am H7 bg f63B N (aZ 99 (bm Tryz.f63) n) .n V (az (some l) K)
def f63t0 N a (K:KT J):f63j N 1 (f63s0 a) f63lE K =
 eU.Z0 N a (λb=>K .ret (f63s1 b)):=by kernel_rfl
def f63ok(h:eU.Spec):ay Tryz.prog 63 mb :=
 bI Tryz.func63 bu f63GOk (λN X K=>f63t0 N X.1 K) (by kernel_rfl) λX hb hp=>by obtain⟨a,_⟩:=X;obtain⟨N,h⟩:=h a hb.1;exact⟨N,Eq.trans (by kernel_rfl) (h N (Nat.le_refl N))⟩
def pM:ay Tryz.prog 63 mb:=f63ok eU.ok
def H8:bc:=⟨[⟨.sl 3 (.int .i64),false,false⟩],[⟨.sl 3 (.int .i64),false,false⟩]⟩
def pN:aQ:=⟨H8,(some λX=>dh.P X.1),λX=>((),((dh.g X.1),()))⟩
def H9:Gm:=be
def f69GOk:av Tryz.prog H9:=av.nil
def f69lE:ab:=⟨[],[],[],[],[]⟩
def f69s0(a:LI):St:=bA H8.ps (a,())
def f69s1(a:LI):St:=ah [(2,xo 1000128)] [] [(1000128,(⟨3,.int .i64,a,true,false⟩:ae))]
def f69l1:ab:=⟨[2],[],[⟨⟨false,2,0⟩,30000000,3,.int .i64,true⟩],[],[(⟨false,2,0⟩,1000128)]⟩
def f69B:Nat->Option ab:=aA [(1000000,f69l1)]
abbrev f69j{J:Type}(N n:Nat)(V:St)(l:ab)(K:KT J):Option J:=am H9 bg f69B N (aZ 99 (bm Tryz.f69) n) .n V (az (some l) K)
def f69t0 N a (K:KT J):f69j N 1 (f69s0 a) f69lE K =
 dh.Z0 N a (λb=>K .ret (f69s1 b)):=by kernel_rfl
def f69ok(h:dh.Spec):ay Tryz.prog 69 pN :=
 bI Tryz.func69 bu f69GOk (λN X K=>f69t0 N X.1 K) (by kernel_rfl) λX hb hp=>by obtain⟨a,_⟩:=X;obtain⟨N,h⟩:=h a hb.1 hp;exact⟨N,Eq.trans (by kernel_rfl) (h N (Nat.le_refl N))⟩
def vq:ay Tryz.prog 69 pN:=f69ok dh.ok
def Ia:bc:=⟨[⟨.pair (.int .i64) (.pair (.int .i64) (.sl 3 (.int .i64))),true,false⟩,⟨.int .i64,false,false⟩],[⟨.pair (.int .i64) (.pair (.int .i64) (.sl 3 (.int .i64))),true,false⟩]⟩
def AM:aQ:=⟨Ia,(some λX=>bR.P X.1 X.2.1),λX=>((),((bR.g X.1 X.2.1),()))⟩
def Ib:Gm:=aK (aK be 69 pN) 83 l7
def f92GOk:av Tryz.prog Ib:=((av.nil).add vq (by kernel_rfl)).add pH (by kernel_rfl)
def f92lE:ab:=⟨[],[],[],[],[]⟩
def f92s0(a:MT)(b:Int):St:=bA Ia.ps (a,(b,()))
def Ic(a b c:Int)(d:LI)(e f:Int):St:=ah [(1,xi a),(2,xb 2),(4,xb 4)] [(2,(27,[yi b,yi c,.sn 3 tI d none])),(4,(27,[yi e,yi f,.nil]))] []
def f92l1:ab:=⟨[1,2,4],[2,4],[],[],[]⟩
def Id(a:LI)(b c d:Int)(e:LI)(f g h i:Int):St:=ah [(1,xi b),(2,xb 2),(4,xb 4),(5,xb 5)] [(2,(27,[yi c,yi d,.sn 3 tI e none])),(4,(27,[yi f,yi g,.nil])),(5,(27,[yi h,yi i,.own 20000322]))] [(20000322,(⟨3,.int .i64,a,true,false⟩:ae))]
def f92l2:ab:=⟨[1,2,4,5],[2,4,5],[],[],[(⟨true,5,2⟩,20000322)]⟩
def iG(a:LI)(b c d e:Int)(f:LI)(g h i j:Int):St:=ah [(1,xi b),(2,xb 2),(4,xb 4),(5,xb 5),(6,xi c)] [(2,(27,[yi d,yi e,.sn 3 tI f none])),(4,(27,[yi g,yi h,.nil])),(5,(27,[yi i,yi j,.own 20000322]))] [(20000322,(⟨3,.int .i64,a,true,false⟩:ae))]
def mc:ab:=⟨[1,2,4,5,6],[2,4,5],[],[],[(⟨true,5,2⟩,20000322)]⟩
def ko(a:LI)(b c d e f:Int)(g:LI)(h i j l:Int):St:=ah [(1,xi b),(2,xb 2),(4,xb 4),(5,xb 5),(6,xi c),(7,xi d)] [(2,(27,[yi e,yi f,.sn 3 tI g none])),(4,(27,[yi h,yi i,.nil])),(5,(27,[yi j,yi l,.own 20000322]))] [(20000322,(⟨3,.int .i64,a,true,false⟩:ae))]
def md:ab:=⟨[1,2,4,5,6,7],[2,4,5],[],[],[(⟨true,5,2⟩,20000322)]⟩
def Ie(a:LI)(b d e f g h:Int)(i:LI)(j l m o:Int):St:=ah [(1,xi b),(2,xb 2),(4,xb 4),(5,xb 5),(6,xi d),(7,xi e),(8,.c (.elt 20000322 f 0))] [(2,(27,[yi g,yi h,.sn 3 tI i none])),(4,(27,[yi j,yi l,.nil])),(5,(27,[yi m,yi o,.own 20000322]))] [(20000322,(⟨3,.int .i64,a,true,false⟩:ae))]
def f92l5:ab:=⟨[1,2,4,5,6,7,8],[2,4,5],[],[],[(⟨true,5,2⟩,20000322)]⟩
def If(a:LI)(b d e f g h i j:Int)(l:LI)(m o p q:Int):St:=ah [(1,xi b),(2,xb 2),(4,xb 4),(5,xb 5),(6,xi d),(7,xi e),(8,.c (.elt 20000322 f 0)),(9,xi g),(10,xi h)] [(2,(27,[yi i,yi j,.sn 3 tI l none])),(4,(27,[yi m,yi o,.nil])),(5,(27,[yi p,yi q,.own 20000322]))] [(20000322,(⟨3,.int .i64,a,true,false⟩:ae))]
def f92l6:ab:=⟨[1,2,4,5,6,7,8,9,10],[2,4,5],[],[],[(⟨true,5,2⟩,20000322)]⟩
def Ig(a:LI)(b d e f g h:Int)(i:Bool)(j l:Int)(m:LI)(o p q r:Int):St:=ah [(1,xi b),(2,xb 2),(4,xb 4),(5,xb 5),(6,xi d),(7,xi e),(8,.c (.elt 20000322 f 0)),(9,xi g),(10,xi h),(48,xB i)] [(2,(27,[yi j,yi l,.sn 3 tI m none])),(4,(27,[yi o,yi p,.nil])),(5,(27,[yi q,yi r,.own 20000322]))] [(20000322,(⟨3,.int .i64,a,true,false⟩:ae))]
def f92l7:ab:=⟨[1,2,4,5,6,7,8,9,10,48],[2,4,5],[],[],[(⟨true,5,2⟩,20000322)]⟩
def pO(a:LI)(b c d e:Int):St:=ah [(4,xb 4),(5,xb 5)] [(4,(27,[yi b,yi c,.nil])),(5,(27,[yi d,yi e,.own 20000322]))] [(20000322,(⟨3,.int .i64,a,true,false⟩:ae))]
def AN:ab:=⟨[4,5],[4,5],[],[],[(⟨true,5,2⟩,20000322)]⟩
def f92s9(a:LI)(b c:Int):St:=ah [(4,xb 4)] [(4,(27,[yi b,yi c,.own 20000258]))] [(20000258,(⟨3,.int .i64,a,true,false⟩:ae))]
def f92l9:ab:=⟨[4],[4],[],[],[(⟨true,4,2⟩,20000258)]⟩
def f92B:Nat->Option ab:=aA [(4,md),(3,md),(2,mc),(1,mc),(0,AN),(1000000,f92l9)]
abbrev iH{J:Type}(N n:Nat)(V:St)(l:ab)(K:KT J):Option J:=am Ib bg f92B N (aZ 99 (bm Tryz.f92) n) .n V (az (some l) K)
def f92t1 N b a (K:KT J):iH N 2 (f92s0 b a) f92l1 K =
 bR.Z1 N b a (λa c d e f g=>K .nrm (Ic a c d e f g)):=by kernel_rfl
def f92t3 N a b c d e f (K:KT J):iH N 5 (Ic a b c d e f) f92l2 K =
 bR.Z3 N a b c d e f (λg a b c d e f h i=>K .nrm (Id g a b c d e f h i)):=by kernel_rfl
def f92t6 N a b c d e f g h i (K:KT J):iH N 19 (Id a b c d e f g h i) mc K =
 bR.Z6 N a b c d e f g h i (λa b j c d e f g h i=>K .nrm (iG a b j c d e f g h i)):=by kernel_rfl
def f92t10 N a f g h i j b c d e (K:KT J):iH N 139 (iG a f g h i j b c d e) mc K =
 bR.Z10 N a f g h i j b c d e (λa f g h i j b c d e=>K .nrm (iG a f g h i j b c d e)) (λa b c d e=>K (.exit 0) (pO a b c d e)):=by kernel_rfl
def f92t14 N a b c d e f g h i j (K:KT J):iH N 1099 (iG a b c d e f g h i j) md K =
 bR.Z14 N a b c d e f g h i j (λa b c l d e f g h i j=>K .nrm (ko a b c l d e f g h i j)):=by kernel_rfl
def f92t18 N a b c l d e f g h i j (K:KT J):iH N 8779 (ko a b c l d e f g h i j) md K =
 bR.Z18 N a b c l d e f g h i j (λa b c l d e f g h i j=>K .nrm (ko a b c l d e f g h i j)) (λa b c d e f g h i j=>K (.exit 2) (iG a b c d e f g h i j)):=by kernel_rfl
def f92t22 N a b c d e f g h i j l (K:KT J):iH N 70219 (ko a b c d e f g h i j l) f92l5 K =
 bR.Z22 N a b c d e f g h i j l (λa b c d m e f g h i j l=>K .nrm (Ie a b c d m e f g h i j l)):=by kernel_rfl
def f92t24 N a b c d e f g h i j l m (K:KT J):iH N 168523 (Ie a b c d e f g h i j l m) f92l6 K =
 bR.Z24 N a b c d e f g h i j l m (λa b c d e o p f g h i j l m=>K .nrm (If a b c d e o p f g h i j l m)):=by kernel_rfl
def f92t27 N a b c d e f g h i j l m o p (K:KT J):iH N 627275 (If a b c d e f g h i j l m o p) f92l7 K =
 bR.Z27 N a b c d e f g h i j l m o p (λa b c d e f g q h i j l m o p=>K .nrm (Ig a b c d e f g q h i j l m o p)):=by kernel_rfl
def f92t28 N a b c d m o p q e f g h i j l (K:KT J):iH N 889419 (Ig a b c d m o p q e f g h i j l) md K =
 bR.Z28 N a b c d m o p q e f g h i j l (λa b c d e f g h i j l=>K .nrm (ko a b c d e f g h i j l)):=by kernel_rfl
def f92t26 N a b c d e f g h i j l m o p (K:KT J):=vQ (λk=>bR.Z27 N a b c d e f g h i j l m o p k) (f92t27 N a b c d e f g h i j l m o p _) (ME λa b c d e f g q h i j l m o p=>f92t28 N a b c d e f g q h i j l m o p K)
def f92t25 N a b c d m o p e f g h i j l (K:KT J):=vB 4 md K (bR.Z25 N a b c d m o p e f g h i j l (λa b c d e f g h i j l=>K .nrm (ko a b c d e f g h i j l))) (f92t26 N a b c d m o p e f g h i j l _) (by kernel_rfl)
def f92t23 N a b c d e f g h i j l m (K:KT J):=vQ (λk=>bR.Z24 N a b c d e f g h i j l m k) (f92t24 N a b c d e f g h i j l m _) (tU λa b c d e o p f g h i j l m=>f92t25 N a b c d e o p f g h i j l m K)
def f92t21 N a b c d e f g h i j l (K:KT J):=vQ (λk=>bR.Z22 N a b c d e f g h i j l k) (f92t22 N a b c d e f g h i j l _) (oI λa b c d m e f g h i j l=>f92t23 N a b c d m e f g h i j l K)
def f92t20 N a b c d e f g h i j l (K:KT J):=vB 3 md K (bR.Z20 N a b c d e f g h i j l (λa b c d e f g h i j l=>K .nrm (ko a b c d e f g h i j l))) (f92t21 N a b c d e f g h i j l _) (by kernel_rfl)
def f92t29 N a b c d e f g h i j l (K:KT J):iH N 29259 (ko a b c d e f g h i j l) md K =
 bR.Z29 N a b c d e f g h i j l (λa b c d e f g h i j l=>K .nrm (ko a b c d e f g h i j l)):=by kernel_rfl
def f92t19 N a b c d e f g h i j l (K:KT J):=vQ (λk=>bR.Z20 N a b c d e f g h i j l k) (f92t20 N a b c d e f g h i j l _) (gD λa b c d e f g h i j l=>f92t29 N a b c d e f g h i j l K)
def f92t17 N a b c l d e f g h i j (K:KT J):=vQ (λk=>bR.Z18 N a b c l d e f g h i j k (λa b c d e f g h i j=>K (.exit 2) (iG a b c d e f g h i j))) (f92t18 N a b c l d e f g h i j _) (gD λa b c l d e f g h i j=>f92t19 N a b c l d e f g h i j K)
def f92t16L N (K:KT J):=q9 K (bR.Z16L N (λa b c d e f g h i j=>K (.exit 2) (iG a b c d e f g h i j))) (λa b c l d e f g h i j k=>bR.Z17 N a b c l d e f g h i j k (λa b c d e f g h i j=>K (.exit 2) (iG a b c d e f g h i j))) (λF a b c l d e f g h i j=>f92t17 N a b c l d e f g h i j _) (by kernel_rfl)
def f92t16 N a b c d e f g h i j l (K:KT J):=vL (ko a b c d e f g h i j l) (f92t16L N (jK mc K) N a b c d e f g h i j l) (by kernel_rfl)
def f92t15 N a b c l d e f g h i j (K:KT J):=vB 2 mc K (bR.Z15 N a b c l d e f g h i j (λa b c d e f g h i j=>K .nrm (iG a b c d e f g h i j))) (f92t16 N a b c l d e f g h i j _) (by kernel_rfl)
def f92t13 N a b c d e f g h i j (K:KT J):=vQ (λk=>bR.Z14 N a b c d e f g h i j k) (f92t14 N a b c d e f g h i j _) (gD λa b c l d e f g h i j=>f92t15 N a b c l d e f g h i j K)
def f92t12 N a b c d e f g h i j (K:KT J):=vB 1 mc K (bR.Z12 N a b c d e f g h i j (λa b c d e f g h i j=>K .nrm (iG a b c d e f g h i j))) (f92t13 N a b c d e f g h i j _) (by kernel_rfl)
def f92t30 N a b c d e f g h i j (K:KT J):iH N 459 (iG a b c d e f g h i j) mc K =
 bR.Z30 N a b c d e f g h i j (λa b c d e f g h i j=>K .nrm (iG a b c d e f g h i j)):=by kernel_rfl
def f92t11 N a b c d e f g h i j (K:KT J):=vQ (λk=>bR.Z12 N a b c d e f g h i j k) (f92t12 N a b c d e f g h i j _) (dz λa b c d e f g h i j=>f92t30 N a b c d e f g h i j K)
def f92t9 N a f g h i j b c d e (K:KT J):=vQ (λk=>bR.Z10 N a f g h i j b c d e k (λa b c d e=>K (.exit 0) (pO a b c d e))) (f92t10 N a f g h i j b c d e _) (dz λa f g h i j b c d e=>f92t11 N a f g h i j b c d e K)
def f92t8L N (K:KT J):=kH K (bR.Z8L N (λa b c d e=>K (.exit 0) (pO a b c d e))) (λa f g h i j b c d e k=>bR.Z9 N a f g h i j b c d e k (λa b c d e=>K (.exit 0) (pO a b c d e))) (λF a f g h i j b c d e=>f92t9 N a f g h i j b c d e _) (by kernel_rfl)
def f92t8 N a b c d e f g h i j (K:KT J):=vL (iG a b c d e f g h i j) (f92t8L N (jK AN K) N a b c d e f g h i j) (by kernel_rfl)
def f92t7 N a f g h i j b c d e (K:KT J):=vB 0 AN K (bR.Z7 N a f g h i j b c d e (λa b c d e=>K .nrm (pO a b c d e))) (f92t8 N a f g h i j b c d e _) (by kernel_rfl)
def f92t5 N a b c d e f g h i (K:KT J):=vQ (λk=>bR.Z6 N a b c d e f g h i k) (f92t6 N a b c d e f g h i _) (dz λa b j c d e f g h i=>f92t7 N a b j c d e f g h i K)
def f92t31 N c a b d e (K:KT J):iH N 15 (pO c a b d e) f92lE K =
 bR.Z31 N c a b d e (λf a b=>K .ret (f92s9 f a b)):=by kernel_rfl
def f92t4 N a f g h i b c d e (K:KT J):=vQ (λk=>bR.Z5 N a f g h i b c d e k) (f92t5 N a f g h i b c d e _) (cH λa b c d e=>f92t31 N a b c d e K)
def f92t2 N a b c d e f (K:KT J):=vQ (λk=>bR.Z3 N a b c d e f k) (f92t3 N a b c d e f _) (ee λg a b c d e f h i=>f92t4 N g a b c d e f h i K)
def f92t0 N b a (K:KT J):=vQ (λk=>bR.Z1 N b a k) (f92t1 N b a _) (cN λa c d e f g=>f92t2 N a c d e f g K)
def f92ok(h:bR.Spec):ay Tryz.prog 92 AM :=
 bI Tryz.func92 bu f92GOk (λN X K=>f92t0 N X.1 X.2.1 K) (by kernel_rfl) λX hb hp=>by obtain⟨a,b,_⟩:=X;obtain⟨N,h⟩:=h a b hb.1 hp;exact⟨N,Eq.trans (by kernel_rfl) (h N (Nat.le_refl N))⟩
def e92ok:ay Tryz.prog 92 AM:=f92ok bR.ok
def Ih:bc:=⟨[⟨.pair (.int .i64) (.pair (.int .i64) (.sl 3 (.int .i64))),true,false⟩,⟨.int .i64,false,false⟩],[⟨.pair (.int .i64) (.pair (.int .i64) (.sl 3 (.int .i64))),true,false⟩,⟨.bool,false,false⟩]⟩
def vr:aQ:=⟨Ih,none,λX=>((),((cE.g X.1 X.2.1).1,((cE.g X.1 X.2.1).2,())))⟩
def Ii:Gm:=aK (aK (aK be 63 mb) 91 pF) 92 AM
def f48GOk:av Tryz.prog Ii:=(((av.nil).add pM (by kernel_rfl)).add vd (by kernel_rfl)).add e92ok (by kernel_rfl)
def f48lE:ab:=⟨[],[],[],[],[]⟩
def f48s0(a:MT)(b:Int):St:=bA Ih.ps (a,(b,()))
def f48s1(a:LI)(b:Bool)(c d:Int):St:=ah [(4,xb 4),(5,xB b)] [(4,(27,[yi c,yi d,.own 20000258]))] [(20000258,(⟨3,.int .i64,a,true,false⟩:ae))]
def f48l1:ab:=⟨[4,5],[4],[⟨⟨true,4,2⟩,30000000,3,.int .i64,true⟩],[],[(⟨true,4,2⟩,20000258)]⟩
def f48B:Nat->Option ab:=aA [(1000000,f48l1)]
abbrev f48j{J:Type}(N n:Nat)(V:St)(l:ab)(K:KT J):Option J:=am Ii bg f48B N (aZ 99 (bm Tryz.f48) n) .n V (az (some l) K)
def f48t0 N a b (K:KT J):f48j N 1 (f48s0 a b) f48lE K =
 cE.Z0 N a b (λc d e f=>K .ret (f48s1 c d e f)):=by kernel_rfl
def f48ok(h:cE.Spec):ay Tryz.prog 48 vr :=
 bI Tryz.func48 bu f48GOk (λN X K=>f48t0 N X.1 X.2.1 K) (by kernel_rfl) λX hb hp=>by obtain⟨a,b,_⟩:=X;obtain⟨N,h⟩:=h a b hb.1;exact⟨N,Eq.trans (by kernel_rfl) (h N (Nat.le_refl N))⟩
def Ij:ay Tryz.prog 48 vr:=f48ok cE.ok
def Ik:bc:=⟨[⟨.pair (.int .i64) (.pair (.int .i64) (.sl 3 (.int .i64))),true,false⟩,⟨.sl 3 (.int .i64),false,false⟩],[⟨.pair (.int .i64) (.pair (.int .i64) (.sl 3 (.int .i64))),true,false⟩,⟨.bool,false,false⟩]⟩
def AO:aQ:=⟨Ik,none,λX=>((),((dj.g X.1 X.2.1).1,((dj.g X.1 X.2.1).2,())))⟩
def Il:Gm:=aK (aK (aK be 48 vr) 63 mb) 69 pN
def f29GOk:av Tryz.prog Il:=(((av.nil).add Ij (by kernel_rfl)).add pM (by kernel_rfl)).add vq (by kernel_rfl)
def f29lE:ab:=⟨[],[],[],[],[]⟩
def f29s0(a:MT)(b:LI):St:=bA Ik.ps (a,(b,()))
def vt(a:LI)(b d:Int)(e:LI)(f g:Int):St:=ah [(1,.c (.sn 3 tI a none)),(2,xb 2),(4,xb 4)] [(2,(27,[yi b,yi d,.sn 3 tI e none])),(4,(27,[yi f,yi g,.nil]))] []
def Im:ab:=⟨[1,2,4],[2,4],[],[],[]⟩
def vu(a b:LI)(d e f g:Int):St:=ah [(1,.c (.sn 3 tI b none)),(4,xb 4),(6,xb 6)] [(4,(27,[yi d,yi e,.nil])),(6,(27,[yi f,yi g,.own 20000386]))] [(20000386,(⟨3,.int .i64,a,true,false⟩:ae))]
def In:ab:=⟨[1,4,6],[4,6],[],[],[(⟨true,6,2⟩,20000386)]⟩
def vv(a b:LI)(d e f g h i:Int):St:=ah [(4,xb 4),(6,xb 6),(27,.c (.sn 3 tI b none)),(28,xi d),(29,xi e)] [(4,(27,[yi f,yi g,.nil])),(6,(27,[yi h,yi i,.own 20000386]))] [(20000386,(⟨3,.int .i64,a,true,false⟩:ae))]
def Io:ab:=⟨[4,6,27,28,29],[4,6],[],[],[(⟨true,6,2⟩,20000386)]⟩
def so(a:LI)(b c d e:Int):St:=ah [(4,xb 4),(6,xb 6)] [(4,(27,[yi b,yi c,.nil])),(6,(27,[yi d,yi e,.own 20000386]))] [(20000386,(⟨3,.int .i64,a,true,false⟩:ae))]
def AP:ab:=⟨[4,6],[4,6],[],[],[(⟨true,6,2⟩,20000386)]⟩
def me(a:LI)(b:Bool)(c d:Int):St:=ah [(4,xb 4),(5,xB b)] [(4,(27,[yi c,yi d,.own 20000258]))] [(20000258,(⟨3,.int .i64,a,true,false⟩:ae))]
def f29l5:ab:=⟨[4,5],[4],[⟨⟨true,4,2⟩,30000000,3,.int .i64,true⟩],[],[(⟨true,4,2⟩,20000258)]⟩
def f29B:Nat->Option ab:=aA [(0,AP),(1000000,f29l5)]
abbrev nN{J:Type}(N n:Nat)(V:St)(l:ab)(K:KT J):Option J:=am Il bg f29B N (aZ 99 (bm Tryz.f29) n) .n V (az (some l) K)
def f29t1 N b a (K:KT J):nN N 2 (f29s0 b a) Im K =
 dj.Z1 N b a (λa c d e f g=>K .nrm (vt a c d e f g)):=by kernel_rfl
def f29t3 N c d e f a b (K:KT J):nN N 5 (vt c d e f a b) Im K =
 dj.Z3 N c d e f a b (λc d e f a b=>K .nrm (vt c d e f a b)) (λg h a b=>K .ret (me g h a b)):=by kernel_rfl
def f29t5 N a d e f b c (K:KT J):nN N 11 (vt a d e f b c) In K =
 dj.Z5 N a d e f b c (λg a b c h i=>K .nrm (vu g a b c h i)):=by kernel_rfl
def f29t7 N a b c d e f (K:KT J):nN N 23 (vu a b c d e f) In K =
 dj.Z7 N a b c d e f (λa b c d e f=>K .nrm (vu a b c d e f)):=by kernel_rfl
def f29t10 N a f b c d e (K:KT J):nN N 79 (vu a f b c d e) Io K =
 dj.Z10 N a f b c d e (λa g h i b c d e=>K .nrm (vv a g h i b c d e)):=by kernel_rfl
def f29t13 N c f g h a b d e (K:KT J):nN N 303 (vv c f g h a b d e) Io K =
 dj.Z13 N c f g h a b d e (λc f g h a b d e=>K .nrm (vv c f g h a b d e)) (λc a b d e=>K (.exit 0) (so c a b d e)) (λi j a b=>K .ret (me i j a b)):=by kernel_rfl
def f29t12L N (K:KT J):=lG K (dj.Z12L N (λc a b d e=>K (.exit 0) (so c a b d e)) (λf g a b=>K .ret (me f g a b))) (λc h i j a b d e k=>dj.Z13 N c h i j a b d e k (λc a b d e=>K (.exit 0) (so c a b d e)) (λf g a b=>K .ret (me f g a b))) (λF c h i j a b d e=>f29t13 N c h i j a b d e _) (by kernel_rfl)
def f29t12 N a b c d e f g h (K:KT J):=vL (vv a b c d e f g h) (f29t12L N (jK AP K) N a b c d e f g h) (by kernel_rfl)
def f29t11 N c f g h a b d e (K:KT J):=vB 0 AP K (dj.Z11 N c f g h a b d e (λc a b d e=>K .nrm (so c a b d e)) (λi j a b=>K .ret (me i j a b))) (f29t12 N c f g h a b d e _) (by kernel_rfl)
def f29t9 N a f b c d e (K:KT J):=vQ (λk=>dj.Z10 N a f b c d e k) (f29t10 N a f b c d e _) (dy λa g h i b c d e=>f29t11 N a g h i b c d e K)
def f29t14 N c a b d e (K:KT J):nN N 63 (so c a b d e) f29lE K =
 dj.Z14 N c a b d e (λf g a b=>K .ret (me f g a b)):=by kernel_rfl
def f29t8 N c f a b d e (K:KT J):=vQ (λk=>dj.Z9 N c f a b d e k (λg h a b=>K .ret (me g h a b))) (f29t9 N c f a b d e _) (cH λc a b d e=>f29t14 N c a b d e K)
def f29t6 N a b c d e f (K:KT J):=vQ (λk=>dj.Z7 N a b c d e f k) (f29t7 N a b c d e f _) (cN λa b c d e f=>f29t8 N a b c d e f K)
def f29t4 N a d e f b c (K:KT J):=vQ (λk=>dj.Z5 N a d e f b c k) (f29t5 N a d e f b c _) (cN λg a b c h i=>f29t6 N g a b c h i K)
def f29t2 N c d e f a b (K:KT J):=vQ (λk=>dj.Z3 N c d e f a b k (λg h a b=>K .ret (me g h a b))) (f29t3 N c d e f a b _) (cN λc d e f a b=>f29t4 N c d e f a b K)
def f29t0 N b a (K:KT J):=vQ (λk=>dj.Z1 N b a k) (f29t1 N b a _) (cN λa c d e f g=>f29t2 N a c d e f g K)
def f29ok(h:dj.Spec):ay Tryz.prog 29 AO :=
 bI Tryz.func29 bu f29GOk (λN X K=>f29t0 N X.1 X.2.1 K) (by kernel_rfl) λX hb hp=>by obtain⟨a,b,_⟩:=X;obtain⟨N,h⟩:=h a b hb.1 hb.2.1;exact⟨N,Eq.trans (by kernel_rfl) (h N (Nat.le_refl N))⟩
def e29ok:ay Tryz.prog 29 AO:=f29ok dj.ok
def Ip:bc:=⟨[⟨.pair (.int .i64) (.pair (.int .i64) (.sl 3 (.int .i64))),true,false⟩],[⟨.pair (.int .i64) (.pair (.int .i64) (.sl 3 (.int .i64))),true,false⟩]⟩
def AQ:aQ:=⟨Ip,none,λX=>((),((jR.g X.1),()))⟩
def Iq:Gm:=aK (aK be 63 mb) 69 pN
def f31GOk:av Tryz.prog Iq:=((av.nil).add pM (by kernel_rfl)).add vq (by kernel_rfl)
def f31lE:ab:=⟨[],[],[],[],[]⟩
def f31s0(a:MT):St:=bA Ip.ps (a,())
def f31s1(a:LI)(b c:Int):St:=ah [(2,xb 2)] [(2,(27,[yi b,yi c,.own 20000130]))] [(20000130,(⟨3,.int .i64,a,true,false⟩:ae))]
def f31l1:ab:=⟨[2],[2],[⟨⟨true,2,2⟩,30000000,3,.int .i64,true⟩],[],[(⟨true,2,2⟩,20000130)]⟩
def f31B:Nat->Option ab:=aA [(1000000,f31l1)]
abbrev f31j{J:Type}(N n:Nat)(V:St)(l:ab)(K:KT J):Option J:=am Iq bg f31B N (aZ 99 (bm Tryz.f31) n) .n V (az (some l) K)
def f31t0 N a (K:KT J):f31j N 1 (f31s0 a) f31lE K =
 jR.Z0 N a (λb c d=>K .ret (f31s1 b c d)):=by kernel_rfl
def f31ok(h:jR.Spec):ay Tryz.prog 31 AQ :=
 bI Tryz.func31 bu f31GOk (λN X K=>f31t0 N X.1 K) (by kernel_rfl) λX hb hp=>by obtain⟨a,_⟩:=X;obtain⟨N,h⟩:=h a hb.1;exact⟨N,Eq.trans (by kernel_rfl) (h N (Nat.le_refl N))⟩
def e31ok:ay Tryz.prog 31 AQ:=f31ok jR.ok
def f115rf:Rf:=none
def f115ps:List PT:=[⟨.sl 3 (.int .i64),false,true⟩,⟨.int .i64,false,false⟩,⟨.sl 3 (.int .i64),false,true⟩]
def f115rs:List PT:=[⟨.sl 3 (.int .i64),false,false⟩]
def AR:jB:=⟨f115rf,f115ps,f115rs,(some λX=>jS.P X.2.1 X.2.2.1 X.2.2.2.1),λX=>((),((jS.g X.2.1 X.2.2.1 X.2.2.2.1),()))⟩
def f115ren:Go.Shelf.Ren:=⟨λ|21=>115|27=>155|28=>156|35=>181|39=>194|n=>n,λ|22=>22|3=>3|4=>4|0=>0|n=>n,λn=>n⟩
def f115lay:Lays2.n21 Tryz.prog f115ren:={ mixed:=(by kernel_rfl),f21:=Tryz.func115.trans (congrArg some (by kernel_rfl)),f27:=Tryz.func155.trans (congrArg some (by kernel_rfl)),f28:=Tryz.func156.trans (congrArg some (by kernel_rfl)),f35:=Tryz.func181.trans (congrArg some (by kernel_rfl)),f39:=Tryz.func194.trans (congrArg some (by kernel_rfl)),t0:=Tryz.underlying0,a0:=Tryz.isAgg0,z0:=Tryz.sizeOf0,v0:=Tryz.zeroValue0,t3:=Tryz.underlying3,a3:=Tryz.isAgg3,z3:=Tryz.sizeOf3,v3:=Tryz.zeroValue3,t4:=Tryz.underlying4,a4:=Tryz.isAgg4,z4:=Tryz.sizeOf4,v4:=Tryz.zeroValue4,t22:=Tryz.underlying22,a22:=Tryz.isAgg22,z22:=Tryz.sizeOf22,v22:=Tryz.zeroValue22,i3:=(by kernel_rfl) }
def f115ok(_:True):gO Tryz.prog 115 AR:=Nb f115lay
def e115ok:gO Tryz.prog 115 AR:=f115ok jS.ok
end Go.Fw
